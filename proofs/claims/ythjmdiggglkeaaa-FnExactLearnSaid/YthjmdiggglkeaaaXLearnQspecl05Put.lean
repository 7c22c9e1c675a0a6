import Derived.Test.YthjmdiggglkeaaaXLearnQlawsszRecordS
import Derived.Test.YthjmdiggglkeaaaXLearnQspecl04CopyList
import Derived.Test.YthjmdiggglkeaaaXLearnQspecl04Near
/- The contract of a Go function. -/


namespace Go.Proofs.Ythjmdiggglkeaaa.Q
open Go.RowKit Go.Proofs.YthjmdiggglkeaaaW.PrintWords Go.Proofs.YthjmdiggglkeaaaW.PrintLast Go.Proofs.YthjmdiggglkeaaaW.PrintMore
attribute [local go_sem] max2_int min2_int max_two min_two max_three min_three max_four min_four   -- for this text's walks alone
set_option linter.unusedVariables false
set_option linter.unusedSimpArgs false

/-! ### spec_l08Copy: function 92 -/
def spec_l08Copy.f (k:Nat) (h:Int) (i:Int) (j:Int) (a:List (S93)) (b:List (S102)) (c:List Int) (l:List (S61)):Option (Int×Int×Int×(List (S93))×(List (S102))×List Int×(List (S61))):=(some (([]:List (S93)):List (S93))).bind fun d=> (if d.length+a.length<4398046511104 then ((some (([]:List (S102)):List (S102))).bind fun e=> (if e.length+b.length<4398046511104 then ((some (([]:List Int):List Int)).bind fun g=> (if g.length+c.length<17592186044416 then ((spec_l04CopyList.f k l).bind fun m=> (some (h,i,j,(d++a),(e++b),(g++c),m))) else (none))) else (none))) else (none))
theorem spec_l08Copy.mono:∀a0 a1 a2 a3 a4 a5 a6 k,LeO (spec_l08Copy.f k a0 a1 a2 a3 a4 a5 a6) (spec_l08Copy.f (k+1) a0 a1 a2 a3 a4 a5 a6):=by
 intro a0 a1 a2 a3 a4 a5 a6 k
 unfold spec_l08Copy.f
 with_reducible repeat' (first | apply spec_l04CopyList.mono | exact LeO.refl _ | exact LeO.none _ | refine LeO.ite ?_ ?_ | refine LeO.bind ?_ (fun _=> ?_))
def spec_l08Copy.T1:Bool×List (List Nat×List Nat):=(true,[([],[]),([0],[0]),([1],[1]),([],[]),([],[]),([4],[4]),([5],[5]),([3,6],[3,6]),([],[]),([],[]),([9],[9]),([10],[10]),([8,11,7],[8,11]),([2,7,12],[2,7,12]),([0,1,2,3,4,5,6,7,8,9,10,11,12,13],[]),([14,13,12,0,1,2,3,4,5,6,7,8,9,10,11,12,13],[13,14])])
def spec_l08Copy.B1:List Nat:=[0,1,3,0,0,16,48,120,0,0,512,1536,4088,8191,16383,32767]
theorem spec_l08Copy.tab1:rtab .any (opsOf Try.f92 1)=spec_l08Copy.T1:=by kernel_rfl
theorem spec_l08Copy.bits1:waitsOk spec_l08Copy.T1.2 spec_l08Copy.B1=true:=by kernel_rfl
set_option maxHeartbeats 8000000 in
set_option maxRecDepth 100000 in
theorem spec_l08Copy.calls (k:Nat) (Al:Int) (Am:Int) (Ak:Int) (Aw:Option Addr) (Ax:Nat) (Aj:List (S93)) (Ay:Option Addr) (Az:Nat) (Ah:List (S102)) (Ba:Option Addr) (Bb:Nat) (Ad:List Int) (Aq:Option Addr) (Ar:Nat) (Ai:List (S61)) (r1:Int) (r2:Int) (r3:Int) (r4:List (S93)) (r5:List (S102)) (r6:List Int) (r7:List (S61)) (w:World) (hr0_3:Kd.C k93 w Aw Aj.length Aj) (hc0_3:Aj.length≤Ax) (hr0_4:Kd.C k102 w Ay Ah.length Ah) (hc0_4:Ah.length≤Az) (hr0_5:Kd.C (Kd.int .i64) w Ba Ad.length Ad) (hc0_5:Ad.length≤Bb) (hr0_6:Kd.C k61 w Aq Ai.length Ai) (hc0_6:Ai.length≤Ar) (h:spec_l08Copy.f k Al Am Ak Aj Ah Ad Ai=some (r1,r2,r3,r4,r5,r6,r7)):
  Calls Try.prog 92 #[.agg #[.int .i64 Al,.int .i64 Am,.int .i64 Ak,.slice Aw Aj.length Ax,.slice Ay Ah.length Az,.slice Ba Ad.length Bb,.slice Aq Ai.length Ar]] w fun e w'=> ∃v3_ v4_ v5_ v6_:Value,e=.returned (.agg #[.int .i64 r1,.int .i64 r2,.int .i64 r3,v3_,v4_,v5_,v6_])∧Kd.R k93 93 w' w.heap.size (fun _=> True) v3_ r4∧Kd.R k102 102 w' w.heap.size (fun _=> True) v4_ r5∧Kd.R (Kd.int .i64) 3 w' w.heap.size (fun _=> True) v5_ r6∧Kd.S k61 61 w' w.heap.size (fun _=> True) v6_ r7∧Below w.heap.size w w':=by
 have hu43:=Try.underlying43;have hu31:=Try.underlying31;have Bo:=ak hr0_3;have Eh:=ak hc0_3;clear hr0_3 hc0_3;have Bv:=ak hr0_4;have Ei:=ak hc0_4;clear hr0_4 hc0_4;have Bw:=ak hr0_5;have Ej:=ak hc0_5;clear hr0_5 hc0_5;have Bx:=ak hr0_6;have By:=ak hc0_6;clear hr0_6 hc0_6;have HB:=ak (Below.refl w.heap.size w);have H:=h
 clear h;unfold spec_l08Copy.f at H;obtain ⟨Be,Bf⟩:∃y_:List (S93),y_=(([]:List (S93))):=⟨_,rfl⟩
 replace H:(if Be.length+Aj.length<4398046511104 then ((some (([]:List (S102)):List (S102))).bind fun Ap=> (if Ap.length+Ah.length<4398046511104 then ((some (([]:List Int):List Int)).bind fun An=> (if An.length+Ad.length<17592186044416 then ((spec_l04CopyList.f k Ai).bind fun Ao=> (some (Al,Am,Ak,(Be++Aj),(Ap++Ah),(An++Ad),Ao))) else (none))) else (none))) else (none))=some (r1,r2,r3,r4,r5,r6,r7):=by first | (rw [Bf];with_reducible exact H) | (have H2_:=(Option.bind_some _ _).symm.trans H;rw [Bf];with_reducible exact H2_) | (have H2_:=(Option.bind_some _ _).symm.trans H;with_reducible exact H2_) | with_reducible exact H | (rw [Bf];exact H) | exact H
 have Bm:=ak Bf;clear Bf
 by_cases c2:Be.length+Aj.length<4398046511104
 ·rw [if_pos c2] at H;have Br:=ak c2;clear c2;obtain ⟨Av,Bg⟩:∃y_:List (S93),y_=(Be++Aj):=⟨_,rfl⟩
  replace H:((some (([]:List (S102)):List (S102))).bind fun Ap=> (if Ap.length+Ah.length<4398046511104 then ((some (([]:List Int):List Int)).bind fun An=> (if An.length+Ad.length<17592186044416 then ((spec_l04CopyList.f k Ai).bind fun Ao=> (some (Al,Am,Ak,Av,(Ap++Ah),(An++Ad),Ao))) else (none))) else (none)))=some (r1,r2,r3,r4,r5,r6,r7):=by first | (rw [Bg];with_reducible exact H) | (have H2_:=(Option.bind_some _ _).symm.trans H;rw [Bg];with_reducible exact H2_) | (have H2_:=(Option.bind_some _ _).symm.trans H;with_reducible exact H2_) | with_reducible exact H | (rw [Bg];exact H) | exact H
  have Bp:=ak Bg;clear Bg;obtain ⟨Ap,Bh⟩:∃y_:List (S102),y_=(([]:List (S102))):=⟨_,rfl⟩
  replace H:(if Ap.length+Ah.length<4398046511104 then ((some (([]:List Int):List Int)).bind fun An=> (if An.length+Ad.length<17592186044416 then ((spec_l04CopyList.f k Ai).bind fun Ao=> (some (Al,Am,Ak,Av,(Ap++Ah),(An++Ad),Ao))) else (none))) else (none))=some (r1,r2,r3,r4,r5,r6,r7):=by first | (rw [Bh];with_reducible exact H) | (have H2_:=(Option.bind_some _ _).symm.trans H;rw [Bh];with_reducible exact H2_) | (have H2_:=(Option.bind_some _ _).symm.trans H;with_reducible exact H2_) | with_reducible exact H | (rw [Bh];exact H) | exact H
  have Bc:=ak Bh;clear Bh
  by_cases c3:Ap.length+Ah.length<4398046511104
  ·rw [if_pos c3] at H;have Cb:=ak c3;clear c3;obtain ⟨Bl,Bi⟩:∃y_:List (S102),y_=(Ap++Ah):=⟨_,rfl⟩
   replace H:((some (([]:List Int):List Int)).bind fun An=> (if An.length+Ad.length<17592186044416 then ((spec_l04CopyList.f k Ai).bind fun Ao=> (some (Al,Am,Ak,Av,Bl,(An++Ad),Ao))) else (none)))=some (r1,r2,r3,r4,r5,r6,r7):=by first | (rw [Bi];with_reducible exact H) | (have H2_:=(Option.bind_some _ _).symm.trans H;rw [Bi];with_reducible exact H2_) | (have H2_:=(Option.bind_some _ _).symm.trans H;with_reducible exact H2_) | with_reducible exact H | (rw [Bi];exact H) | exact H
   have Bz:=ak Bi;clear Bi;obtain ⟨An,Bj⟩:∃y_:List Int,y_=(([]:List Int)):=⟨_,rfl⟩
   replace H:(if An.length+Ad.length<17592186044416 then ((spec_l04CopyList.f k Ai).bind fun Ao=> (some (Al,Am,Ak,Av,Bl,(An++Ad),Ao))) else (none))=some (r1,r2,r3,r4,r5,r6,r7):=by first | (rw [Bj];with_reducible exact H) | (have H2_:=(Option.bind_some _ _).symm.trans H;rw [Bj];with_reducible exact H2_) | (have H2_:=(Option.bind_some _ _).symm.trans H;with_reducible exact H2_) | with_reducible exact H | (rw [Bj];exact H) | exact H
   have Bt:=ak Bj;clear Bj
   by_cases c4:An.length+Ad.length<17592186044416
   ·rw [if_pos c4] at H;have Cc:=ak c4;clear c4;obtain ⟨Bs,Bk⟩:∃y_:List Int,y_=(An++Ad):=⟨_,rfl⟩
    replace H:((spec_l04CopyList.f k Ai).bind fun Ao=> (some (Al,Am,Ak,Av,Bl,Bs,Ao)))=some (r1,r2,r3,r4,r5,r6,r7):=by first | (rw [Bk];with_reducible exact H) | (have H2_:=(Option.bind_some _ _).symm.trans H;rw [Bk];with_reducible exact H2_) | (have H2_:=(Option.bind_some _ _).symm.trans H;with_reducible exact H2_) | with_reducible exact H | (rw [Bk];exact H) | exact H
    have Ca:=ak Bk;clear Bk;replace H:=bsi H;obtain ⟨Ao,A50,H⟩:=H
    (try dsimp only at H)
    have A5:=ak A50;clear A50
    simp only [Option.some.injEq,Prod.mk.injEq] at H
    obtain ⟨rfl,rfl,rfl,rfl,rfl,rfl,rfl⟩:=H
    go_enter Try.func92,Try.ntmps92
    try go_wp2_with (first | ((with_reducible refine gate_dst (N:=1) rfl ?_);refine box_q 1 #[.int .i64 Al,.int .i64 Am,.int .i64 Ak,.slice Aw Aj.length Ax,.slice Ay Ah.length Az,.slice Ba Ad.length Bb,.slice Aq Ai.length Ar] 43 ?_;intro Ac hg w6 hbox hb;have Aa:=ak (hbox);have Ek:=gs_ HB hg;replace HB:=hB_ HB hb;clear hb hbox hg) | ((with_reducible refine gate_dst (N:=2) rfl ?_);refine box_q 2 #[.int .i64 0,.int .i64 0,.int .i64 0,.slice none 0 0,.slice none 0 0,.slice none 0 0,.slice none 0 0] 43 ?_;intro Bq hg w7 hbox hb;have Ab:=ak (hbox);have El:=gs_ HB hg;replace HB:=hB_ HB hb;have As:=nb_ Aa hg;have At:=nB_ Aa hg;replace Aa:=bb_ Aa hb;clear hb hbox hg))
    replace Aa:=ak (blk_drew Aa.out);replace Ab:=ak (blk_drew Ab.out);replace HB:=ak (below_drew1 HB.out)
    refine start_ (n:=16) (S:=fun w'=> cl7 w' Ac (.int .i64 Al) (.int .i64 Am) (.int .i64 Ak) (.slice Aw Aj.length Ax) (.slice Ay Ah.length Az) (.slice Ba Ad.length Bb) (.slice Aq Ai.length Ar)) (ds:=[15]) (bL 16 0) (by kernel_rfl) rfl rfl (cz7_ Aa) (fun hHeld=> ?_);refine with_tabW spec_l08Copy.tab1 spec_l08Copy.bits1 (fun HT_ HW_=> ?_)
    generalize w7.drew=w8 at Aa Ab HB hHeld ⊢
    refine pQ_ 0 HT_ ?_
    refine pQ_ 1 HT_ ?_
    refine pQ_ 4 HT_ ?_
    refine pQ_ 5 HT_ ?_
    refine pQ_ 9 HT_ ?_
    refine pQ_ 10 HT_ ?_
    refine take_ (i:=2) (N:=some 5) (v:=?_) (a':=?_) (bL 16 1591) rfl rfl (take_ofW HT_.out HW_.out (by kernel_rfl)) (fun _ _ _ h=> h) (Or.inl ⟨by rfl,?_⟩) hHeld ?_ ?_;rotate_left;(rintro w' s0;go_simp;with_reducible rfl);rotate_left;(exact put_q)
    refine take_ (i:=6) (N:=some 9) (v:=?_) (a':=?_) (bL 16 1655) rfl rfl (take_ofW HT_.out HW_.out (by kernel_rfl)) (fun _ _ _ h=> h) (Or.inl ⟨by rfl,?_⟩) hHeld ?_ ?_;rotate_left;(rintro w' s0;go_simp;with_reducible rfl);rotate_left;(exact put_q)
    refine take_ (i:=11) (N:=some 14) (v:=?_) (a':=?_) (bL 16 3703) rfl rfl (take_ofW HT_.out HW_.out (by kernel_rfl)) (fun _ _ _ h=> h) (Or.inl ⟨by rfl,?_⟩) hHeld ?_ ?_;rotate_left;(rintro w' s0;go_simp;with_reducible rfl);rotate_left;(exact put_q)
    refine join_ (σ:=Value×Value×Value) 4 (bL 16 4095) (fun s_=> [(6,s_.1),(10,s_.2.1),(11,s_.2.2)]) (fun s_ w'=> (w'.cell? ⟨Ac,0,none⟩=some (.int .i64 Al)∧w'.cell? ⟨Ac,1,none⟩=some (.int .i64 Am)∧w'.cell? ⟨Ac,2,none⟩=some (.int .i64 Ak)∧w'.cell? ⟨Ac,3,none⟩=some (.slice Aw Aj.length Ax)∧w'.cell? ⟨Ac,4,none⟩=some (.slice Ay Ah.length Az)∧w'.cell? ⟨Ac,5,none⟩=some (.slice Ba Ad.length Bb)∧w'.cell? ⟨Ac,6,none⟩=some (.slice Aq Ai.length Ar))∧(Kd.R k93 93 w' w.heap.size (fun _=> True) s_.2.1 Av)∧(Kd.R k102 102 w' w.heap.size (fun _=> True) s_.2.2 Ap)∧(w'.heap[Ac]? =some (.cells #[.int .i64 Al,.int .i64 Am,.int .i64 Ak,.slice Aw Aj.length Ax,.slice Ay Ah.length Az,.slice Ba Ad.length Bb,.slice Aq Ai.length Ar] 43 (0,0)))∧(w'.heap[Bq]? =some (.cells #[.int .i64 0,.int .i64 0,.int .i64 0,.slice none 0 0,.slice none 0 0,.slice none 0 0,.slice none 0 0] 43 (0,0)))∧(Below w.heap.size w w')) ?_ ?_
    rotate_left
    ·intro hCont
     refine two_ (i:=3) (j:=8) (Ni:=some 6) (Nj:=some 11) (bL 16 3711) (bL 16 3959) rfl rfl rfl rfl (two_of HT_.out (by kernel_rfl)) (by decide) (by decide) (fun K hK=> ?_) (fun K hK=> ?_)
     ·skip
      refine Kd.R_lit_step k93 _ 93 ?hg (N:=6) ?hd (xs:=([]:List (S93))) (inner:=[]) (ok:=fun _=> True) (okp:=fun _=> True) ?hr ?hp (fun _ hk=> hk) trivial (Below.refl _ _) (Nat.le_refl _) (by simp) ?_;(case hd=> rfl);(case hg=> rfl);(case hr=> first | (go_simp;done) | (go_simp;rfl));(case hp=> exact (Reps.none _ _))
      intro v459 w9 ho10 hb hg_ hnew_
      clear hg_ hnew_
      (first | rw [←Bm.out] at ho10 | (simp only [Int.reduceToNat] at ho10;rw [←Bm.out] at ho10))
      have Af:=ak (Kd.R_lower ho10 (below_size (bw_q HB)));replace Aa:=bb_ Aa hb;replace Ab:=bb_ Ab hb;replace HB:=hB_ HB hb;clear hb ho10
      refine hK.out _ _ (cz7_ Aa) (fun hHeld=> ?_)
      clear hK K
      refine norm_ (a':=?_) ?_ ?_;rotate_left;(show Act.put _ (some 6) _=_;simp only [Act.put,List.setIfInBounds_toArray,List.set_cons_zero,List.set_cons_succ,i64_w,i32_w];rfl)
      refine two_ (i:=7) (j:=8) (Ni:=some 10) (Nj:=some 11) (bL 16 3839) (bL 16 3967) rfl rfl rfl rfl (two_of HT_.out (by kernel_rfl)) (by decide) (by decide) (fun K hK=> ?_) (fun K hK=> ?_)
      ·skip
       refine Kd.R_append_rows_step k93 (w0:=w) w.heap.size (by rfl) (.tmp 6) (.tmp 9) 28 93 (.agg #[(.int .i64 0),(.int .i64 0),(.int .i64 0),(.int .i64 0)]) 32 rfl Try.underlying28 info93 rfl (by decide) (by omega) v459 Be Aj _ _ _ (fun _=> True) (fun _=> False) rfl rfl ?_ ?aR (fun _ _ h=> h) (fun _ h=> h.elim) ?_ ?_ ?_ ?_ ?_
       (case aR=> exact cs_q (Kd.C_below Bo.out HB.out))
       exact (kR_q Af)
       exact (fun _ _=> trivial)
       exact (bw_q HB)
       exact (below_size (bw_q HB))
       (focus have:=Br.out;omega)
       intro v462 w11 ho hb hg hat
       rw [←Bp.out] at ho
       replace Aa:=bG_ Aa hg (Kd.R_ne Af.out Aa.out (by decide))
       replace Ab:=bG_ Ab hg (Kd.R_ne Af.out Ab.out (by decide))
       replace HB:=ak (hb);have Ae:=ak (ho);clear Af;clear ho hb hg hat
       refine hK.out _ _ (cz7_ Aa) (fun hHeld=> ?_)
       clear hK K
       refine norm_ (a':=?_) ?_ ?_;rotate_left;(show Act.put _ (some 10) _=_;simp only [Act.put,List.setIfInBounds_toArray,List.set_cons_zero,List.set_cons_succ,i64_w,i32_w];rfl)
       refine one_ (i:=8) (N:=some 11) (bL 16 4095) rfl rfl (one_of HT_.out (by kernel_rfl)) (by decide) (fun K hK=> ?_)
       refine Kd.R_lit_step k102 _ 102 ?hg (N:=11) ?hd (xs:=([]:List (S102))) (inner:=[]) (ok:=fun _=> True) (okp:=fun _=> True) ?hr ?hp (fun _ hk=> hk) trivial (Below.refl _ _) (Nat.le_refl _) (by simp) ?_;(case hd=> rfl);(case hg=> rfl);(case hr=> first | (go_simp;done) | (go_simp;rfl));(case hp=> exact (Reps.none _ _))
       intro v465 w12 ho13 hb hg_ hnew_
       clear hg_ hnew_
       (first | rw [←Bc.out] at ho13 | (simp only [Int.reduceToNat] at ho13;rw [←Bc.out] at ho13))
       replace Ae:=rb_ Ae hb;have Ag:=ak (Kd.R_lower ho13 (below_size (bw_q HB)));replace Aa:=bb_ Aa hb;replace Ab:=bb_ Ab hb;replace HB:=hB_ HB hb;clear hb ho13
       refine hK.out _ _ (cz7_ Aa) (fun hHeld=> ?_)
       clear hK K
       refine norm_ (a':=?_) ?_ ?_;rotate_left;(show Act.put _ (some 11) _=_;simp only [Act.put,List.setIfInBounds_toArray,List.set_cons_zero,List.set_cons_succ,i64_w,i32_w];rfl)
       exact norm_ (by simp only [putAll,Act.put,List.setIfInBounds_toArray,List.set_cons_zero,List.set_cons_succ]) (hCont (v459,v462,v465) _ ⟨hHeld,(kR_q Ae),(kR_q Ag),(bk_q Aa),(bk_q Ab),(bw_q HB)⟩)
      ·skip
       refine Kd.R_lit_step k102 _ 102 ?hg (N:=11) ?hd (xs:=([]:List (S102))) (inner:=[]) (ok:=fun _=> True) (okp:=fun _=> True) ?hr ?hp (fun _ hk=> hk) trivial (Below.refl _ _) (Nat.le_refl _) (by simp) ?_;(case hd=> rfl);(case hg=> rfl);(case hr=> first | (go_simp;done) | (go_simp;rfl));(case hp=> exact (Reps.none _ _))
       intro v465 w11 ho12 hb hg_ hnew_
       clear hg_ hnew_
       (first | rw [←Bc.out] at ho12 | (simp only [Int.reduceToNat] at ho12;rw [←Bc.out] at ho12))
       replace Af:=rb_ Af hb;have Ag:=ak (Kd.R_lower ho12 (below_size (bw_q HB)));replace Aa:=bb_ Aa hb;replace Ab:=bb_ Ab hb;replace HB:=hB_ HB hb;clear hb ho12
       refine hK.out _ _ (cz7_ Aa) (fun hHeld=> ?_)
       clear hK K
       refine norm_ (a':=?_) ?_ ?_;rotate_left;(show Act.put _ (some 11) _=_;simp only [Act.put,List.setIfInBounds_toArray,List.set_cons_zero,List.set_cons_succ,i64_w,i32_w];rfl)
       refine one_ (i:=7) (N:=some 10) (bL 16 4095) rfl rfl (one_of HT_.out (by kernel_rfl)) (by decide) (fun K hK=> ?_)
       refine Kd.R_append_rows_step k93 (w0:=w) w.heap.size (by rfl) (.tmp 6) (.tmp 9) 28 93 (.agg #[(.int .i64 0),(.int .i64 0),(.int .i64 0),(.int .i64 0)]) 32 rfl Try.underlying28 info93 rfl (by decide) (by omega) v459 Be Aj _ _ _ (fun _=> True) (fun _=> False) rfl rfl ?_ ?aR (fun _ _ h=> h) (fun _ h=> h.elim) ?_ ?_ ?_ ?_ ?_
       (case aR=> exact cs_q (Kd.C_below Bo.out HB.out))
       exact (kR_q Af)
       exact (fun _ _=> trivial)
       exact (bw_q HB)
       exact (below_size (bw_q HB))
       (focus have:=Br.out;omega)
       intro v462 w13 ho hb hg hat
       rw [←Bp.out] at ho
       replace Aa:=bG_ Aa hg (Kd.R_ne Af.out Aa.out (by decide))
       replace Ab:=bG_ Ab hg (Kd.R_ne Af.out Ab.out (by decide))
       replace Ag:=ak (Kd.R_over' (kR_q Ag) (Kd.R_typed (kR_q Af)) (by decide) hg)
       replace HB:=ak (hb);have Ae:=ak (ho);clear Af;clear ho hb hg hat
       refine hK.out _ _ (cz7_ Aa) (fun hHeld=> ?_)
       clear hK K
       refine norm_ (a':=?_) ?_ ?_;rotate_left;(show Act.put _ (some 10) _=_;simp only [Act.put,List.setIfInBounds_toArray,List.set_cons_zero,List.set_cons_succ,i64_w,i32_w];rfl)
       exact norm_ (by simp only [putAll,Act.put,List.setIfInBounds_toArray,List.set_cons_zero,List.set_cons_succ]) (hCont (v459,v462,v465) _ ⟨hHeld,(kR_q Ae),(kR_q Ag),(bk_q Aa),(bk_q Ab),(bw_q HB)⟩)
     ·skip
      refine Kd.R_lit_step k102 _ 102 ?hg (N:=11) ?hd (xs:=([]:List (S102))) (inner:=[]) (ok:=fun _=> True) (okp:=fun _=> True) ?hr ?hp (fun _ hk=> hk) trivial (Below.refl _ _) (Nat.le_refl _) (by simp) ?_;(case hd=> rfl);(case hg=> rfl);(case hr=> first | (go_simp;done) | (go_simp;rfl));(case hp=> exact (Reps.none _ _))
      intro v465 w9 ho10 hb hg_ hnew_
      clear hg_ hnew_
      (first | rw [←Bc.out] at ho10 | (simp only [Int.reduceToNat] at ho10;rw [←Bc.out] at ho10))
      have Ag:=ak (Kd.R_lower ho10 (below_size (bw_q HB)));replace Aa:=bb_ Aa hb;replace Ab:=bb_ Ab hb;replace HB:=hB_ HB hb;clear hb ho10
      refine hK.out _ _ (cz7_ Aa) (fun hHeld=> ?_)
      clear hK K
      refine norm_ (a':=?_) ?_ ?_;rotate_left;(show Act.put _ (some 11) _=_;simp only [Act.put,List.setIfInBounds_toArray,List.set_cons_zero,List.set_cons_succ,i64_w,i32_w];rfl)
      refine one_ (i:=3) (N:=some 6) (bL 16 3967) rfl rfl (one_of HT_.out (by kernel_rfl)) (by decide) (fun K hK=> ?_)
      refine Kd.R_lit_step k93 _ 93 ?hg (N:=6) ?hd (xs:=([]:List (S93))) (inner:=[]) (ok:=fun _=> True) (okp:=fun _=> True) ?hr ?hp (fun _ hk=> hk) trivial (Below.refl _ _) (Nat.le_refl _) (by simp) ?_;(case hd=> rfl);(case hg=> rfl);(case hr=> first | (go_simp;done) | (go_simp;rfl));(case hp=> exact (Reps.none _ _))
      intro v459 w11 ho12 hb hg_ hnew_
      clear hg_ hnew_
      (first | rw [←Bm.out] at ho12 | (simp only [Int.reduceToNat] at ho12;rw [←Bm.out] at ho12))
      replace Ag:=rb_ Ag hb;have Af:=ak (Kd.R_lower ho12 (below_size (bw_q HB)));replace Aa:=bb_ Aa hb;replace Ab:=bb_ Ab hb;replace HB:=hB_ HB hb;clear hb ho12
      refine hK.out _ _ (cz7_ Aa) (fun hHeld=> ?_)
      clear hK K
      refine norm_ (a':=?_) ?_ ?_;rotate_left;(show Act.put _ (some 6) _=_;simp only [Act.put,List.setIfInBounds_toArray,List.set_cons_zero,List.set_cons_succ,i64_w,i32_w];rfl)
      refine one_ (i:=7) (N:=some 10) (bL 16 4095) rfl rfl (one_of HT_.out (by kernel_rfl)) (by decide) (fun K hK=> ?_)
      refine Kd.R_append_rows_step k93 (w0:=w) w.heap.size (by rfl) (.tmp 6) (.tmp 9) 28 93 (.agg #[(.int .i64 0),(.int .i64 0),(.int .i64 0),(.int .i64 0)]) 32 rfl Try.underlying28 info93 rfl (by decide) (by omega) v459 Be Aj _ _ _ (fun _=> True) (fun _=> False) rfl rfl ?_ ?aR (fun _ _ h=> h) (fun _ h=> h.elim) ?_ ?_ ?_ ?_ ?_
      (case aR=> exact cs_q (Kd.C_below Bo.out HB.out))
      exact (kR_q Af)
      exact (fun _ _=> trivial)
      exact (bw_q HB)
      exact (below_size (bw_q HB))
      (focus have:=Br.out;omega)
      intro v462 w13 ho hb hg hat
      rw [←Bp.out] at ho
      replace Aa:=bG_ Aa hg (Kd.R_ne Af.out Aa.out (by decide))
      replace Ab:=bG_ Ab hg (Kd.R_ne Af.out Ab.out (by decide))
      replace Ag:=ak (Kd.R_over' (kR_q Ag) (Kd.R_typed (kR_q Af)) (by decide) hg)
      replace HB:=ak (hb);have Ae:=ak (ho);clear Af;clear ho hb hg hat
      refine hK.out _ _ (cz7_ Aa) (fun hHeld=> ?_)
      clear hK K
      refine norm_ (a':=?_) ?_ ?_;rotate_left;(show Act.put _ (some 10) _=_;simp only [Act.put,List.setIfInBounds_toArray,List.set_cons_zero,List.set_cons_succ,i64_w,i32_w];rfl)
      exact norm_ (by simp only [putAll,Act.put,List.setIfInBounds_toArray,List.set_cons_zero,List.set_cons_succ]) (hCont (v459,v462,v465) _ ⟨hHeld,(kR_q Ae),(kR_q Ag),(bk_q Aa),(bk_q Ab),(bw_q HB)⟩)
    rintro ⟨v459,v462,v465⟩ w14 ⟨hS_,h0_,h1_,h2_,h3_,h4_⟩
    have Ae:Aside0 (Kd.R k93 93 w14 w.heap.size (fun _=> True) v462 Av):=⟨h0_⟩
    have Ag:Aside0 (Kd.R k102 102 w14 w.heap.size (fun _=> True) v465 Ap):=⟨h1_⟩
    replace Aa:Aside0 (w14.heap[Ac]? =some (.cells #[.int .i64 Al,.int .i64 Am,.int .i64 Ak,.slice Aw Aj.length Ax,.slice Ay Ah.length Az,.slice Ba Ad.length Bb,.slice Aq Ai.length Ar] 43 (0,0))):=⟨h2_⟩
    replace Ab:Aside0 (w14.heap[Bq]? =some (.cells #[.int .i64 0,.int .i64 0,.int .i64 0,.slice none 0 0,.slice none 0 0,.slice none 0 0,.slice none 0 0] 43 (0,0))):=⟨h3_⟩
    replace HB:Aside0 (Below w.heap.size w w14):=⟨h4_⟩
    clear h0_ h1_ h2_ h3_ h4_
    have hHeld:w14.cell? ⟨Ac,0,none⟩=some (.int .i64 Al)∧w14.cell? ⟨Ac,1,none⟩=some (.int .i64 Am)∧w14.cell? ⟨Ac,2,none⟩=some (.int .i64 Ak)∧w14.cell? ⟨Ac,3,none⟩=some (.slice Aw Aj.length Ax)∧w14.cell? ⟨Ac,4,none⟩=some (.slice Ay Ah.length Az)∧w14.cell? ⟨Ac,5,none⟩=some (.slice Ba Ad.length Bb)∧w14.cell? ⟨Ac,6,none⟩=some (.slice Aq Ai.length Ar):=hS_
    refine norm_ (a':=?_) ?_ ?_
    rotate_left
    ·simp only [putAll,Act.put,List.setIfInBounds_toArray,List.set_cons_zero,List.set_cons_succ]
     rfl
    refine one_ (i:=12) (N:=some 15) (bL 16 8191) rfl rfl (one_of HT_.out (by kernel_rfl)) (by decide) (fun K hK=> ?_)
    refine Kd.R_append_rows_step k102 (w0:=w) w.heap.size (by rfl) (.tmp 11) (.tmp 14) 29 102 (.agg #[(.int .i64 0),(.int .i64 0),(.int .i64 0),(.bool false)]) 32 rfl Try.underlying29 info102 rfl (by decide) (by omega) v465 Ap Ah _ _ _ (fun _=> True) (fun _=> False) rfl rfl ?_ ?aR (fun _ _ h=> h) (fun _ h=> h.elim) ?_ ?_ ?_ ?_ ?_
    (case aR=> exact cs_q (Kd.C_below Bv.out HB.out))
    exact (kR_q Ag)
    exact (fun _ _=> trivial)
    exact (bw_q HB)
    exact (below_size (bw_q HB))
    (focus have:=Cb.out;omega)
    intro v468 w15 ho hb hg hat
    rw [←Bz.out] at ho
    replace Aa:=bG_ Aa hg (Kd.R_ne Ag.out Aa.out (by decide))
    replace Ab:=bG_ Ab hg (Kd.R_ne Ag.out Ab.out (by decide))
    replace Ae:=ak (Kd.R_over' (kR_q Ae) (Kd.R_typed (kR_q Ag)) (by decide) hg)
    replace HB:=ak (hb);have Au:=ak (ho);clear Ag;clear ho hb hg hat;obtain ⟨Ao16,co16,eo16⟩:=Kd.R_slice Au.out
    (first | subst eo16 | (injection eo16 with f1_ f2_ f3_;have f4_:=f1_.symm;have f5_:=f3_.symm;clear f1_ f2_ f3_;subst f4_;subst f5_))
    obtain ⟨Ao17,co17,eo17⟩:=Kd.R_slice Ae.out
    (first | subst eo17 | (injection eo17 with f1_ f2_ f3_;have f4_:=f1_.symm;have f5_:=f3_.symm;clear f1_ f2_ f3_;subst f4_;subst f5_))
    refine hK.out _ _ (cz7_ Aa) (fun hHeld=> ?_)
    clear hK K
    refine norm_ (a':=?_) ?_ ?_;rotate_left;(show Act.put _ (some 15) _=_;simp only [Act.put,List.setIfInBounds_toArray,List.set_cons_zero,List.set_cons_succ,i64_w,i32_w];rfl)
    refine pQ_ 13 HT_ ?_
    refine pQ_ 14 HT_ ?_
    refine last_ (i:=15) (N:=none) (bL 16 65535) rfl rfl (one_of HT_.out (by kernel_rfl)) (by decide) (fun K hK=> ?_)
    have hs18:w15.cell? ⟨Ac,2,none⟩=some (.int .i64 Ak):=(blk_cell Aa.out 2).trans rfl
    have hfs18:=blk_frozen Aa.out 2;have hns18_1:=At.out;have hms18_1:=As.out
    have hs19:w15.cell? ⟨Ac,3,none⟩=some (.slice Aw Aj.length Ax):=(blk_cell Aa.out 3).trans rfl
    have hfs19:=blk_frozen Aa.out 3;have hns19_1:=At.out;have hms19_1:=As.out
    have hs20:w15.cell? ⟨Ac,4,none⟩=some (.slice Ay Ah.length Az):=(blk_cell Aa.out 4).trans rfl
    have hfs20:=blk_frozen Aa.out 4;have hns20_1:=At.out;have hms20_1:=As.out
    refine skip_ (w1:=?_) (by rfl) rfl ?_ ?_
    rotate_left
    ·go_simp
     rfl
    refine hK.out _ _ ?_
    clear hK K
    refine done_ (done_of HT_.out (by kernel_rfl)) ?_
    try go_wp2_with (first | ((with_reducible refine gate_dst (N:=18) rfl ?_);refine Kd.R_lit (Kd.int .i64) _ 3 ?hg (N:=18) ?hd (xs:=([]:List Int)) (inner:=[]) (ok:=fun _=> True) (okp:=fun _=> True) ?hr ?hp (fun _ hk=> hk) trivial (Below.refl _ _) (Nat.le_refl _) (by simp) ?_;(case hd=> rfl);(case hg=> rfl);(case hr=> first | (go_simp;done) | (go_simp;rfl));(case hp=> exact (Reps.none _ _));intro v471 w21 ho22 hb hg_ hnew_;clear hg_ hnew_;(first | rw [←Bt.out] at ho22 | (simp only [Int.reduceToNat] at ho22;rw [←Bt.out] at ho22));replace Ae:=ak (Kd.R_below (by exact (Kd.R_mono (rF_ (Kd.R_types Ae.out Aa.out (by decide))) (fun _ h_=> h_.1))) hb);replace Au:=ak (Kd.R_below (by exact (Kd.R_mono (rF_ (Kd.R_types Au.out Aa.out (by decide))) (fun _ h_=> h_.1))) hb);have Bd:=ak (Kd.R_lower ho22 (below_size (bw_q HB)));replace Aa:=bB_ #[.int .i64 Al,.int .i64 Am,.int .i64 Ak,.slice Ao17 Av.length co17,.slice Ao16 Bl.length co16,.slice Ba Ad.length Bb,.slice Aq Ai.length Ar] Aa hb;replace Ab:=bF_ Ab hb;replace HB:=hB_ HB hb;clear hb ho22;have Em:=As.out;have En:=At.out;obtain ⟨Cd,Ce,Cf,Cg,Ch,Ci,Cj,Ck,Cl,Cm,Cn,Co,Cp,Cq⟩:=cf7_ Aa) | ((with_reducible refine gate_builtin (b:=.append) (xs:=#[.tmp 18,.tmp 20]) rfl ?_);at_builtin;refine Kd.R_append_rows (Kd.int .i64) (w0:=w) w.heap.size rfl (.tmp 18) (.tmp 20) 35 3 (.int .i64 0) 8 rfl Try.underlying35 info3 rfl (by decide) (by omega) v471 An Ad _ _ _ (fun _=> True) (fun _=> False) rfl rfl ?_ ?aR (fun _ _ h=> h) (fun _ h=> h.elim) ?_ ?_ ?_ ?_ ?_;(case aR=> exact cs_q (Kd.C_below Bw.out HB.out));exact (kR_q Bd);exact (fun _ _=> trivial);exact (bw_q HB);exact (below_size (bw_q HB));(focus have:=Cc.out;omega);intro v474 w25 ho hb hg hat;rw [←Ca.out] at ho;replace Aa:=bG_ Aa hg (Kd.R_ne Bd.out Aa.out (by decide));replace Ab:=bG_ Ab hg (Kd.R_ne Bd.out Ab.out (by decide));replace Ae:=ak (Kd.R_over' (kR_q Ae) (Kd.R_typed (kR_q Bd)) (by decide) hg);replace Au:=ak (Kd.R_over' (kR_q Au) (Kd.R_typed (kR_q Bd)) (by decide) hg);replace HB:=ak (hb);have Bn:=ak (ho);clear Bd;clear ho hb hg hat;obtain ⟨Ao26,co26,eo26⟩:=Kd.R_slice Bn.out;subst eo26;obtain ⟨Cr,Cs,Ct,Cu,Cv,Cw,Cx,Cy,Cz,Da,Db,Dc,Dd,De⟩:=cf7_ Aa) | ((with_reducible refine gC_ 95 ?_);refine gL_ 25 Try.func95 #[.slice Aq Ai.length Ar] ?_;(with_reducible refine (spec_l04CopyList.calls k _ _ Ai Ao _ ?_ ?_ A5.out).mono ?_);exact Kd.C_below Bx.out (bw_q HB);exact By.out;rintro e w28 ⟨v477,rfl,ho0,hb⟩;refine ⟨_,rfl,?_⟩;replace Ae:=ak (Kd.R_below (by exact (Kd.R_mono (rF_ (Kd.R_types Ae.out Aa.out (by decide))) (fun _ h_=> h_.1))) hb);replace Au:=ak (Kd.R_below (by exact (Kd.R_mono (rF_ (Kd.R_types Au.out Aa.out (by decide))) (fun _ h_=> h_.1))) hb);replace Bn:=ak (Kd.R_below (by exact (Kd.R_mono (rF_ (Kd.R_types Bn.out Aa.out (by decide))) (fun _ h_=> h_.1))) hb);have Bu:=ak (Kd.S_lower ho0 (below_size (bw_q HB)));replace Aa:=bB_ #[.int .i64 Al,.int .i64 Am,.int .i64 Ak,.slice Ao17 Av.length co17,.slice Ao16 Bl.length co16,.slice Ao26 Bs.length co26,.slice Aq Ai.length Ar] Aa hb;replace Ab:=bF_ Ab hb;replace HB:=hB_ HB hb;(try clear ho0);obtain ⟨Ao29,co29,eo29⟩:=Kd.S_slice Bu.out;subst eo29;obtain ⟨Df,Dg,Dh,Di,Dj,Dk,Dl,Dm,Dn,Do,Dp,Dq,Dr,Ds⟩:=cf7_ Aa;obtain ⟨Dt,Du,Dv,Dw,Dx,Dy,Dz,Ea,Eb,Ec,Ed,Ee,Ef,Eg⟩:=cf7_ Ab))
    refine bodyPost_ret (results_cell_row rfl _ _ Bq 43 #[.int .i64 Al,.int .i64 Am,.int .i64 Ak,.slice Ao17 Av.length co17,.slice Ao16 Bl.length co16,.slice Ao26 Bs.length co26,.slice Ao29 Ao.length co29] (0,0) _ rfl (bp_ Ab) Try.underlying43 rfl (by kernel_rfl)) rfl ?_
    exact ⟨_,_,_,_,er_q,by exact Kd.R_mono (rF_ (Kd.R_types (Kd.R_types Ae.out Aa.out (by decide)) Ab.out (by decide))) (fun _ hk=> trivial),by exact Kd.R_mono (rF_ (Kd.R_types (Kd.R_types Au.out Aa.out (by decide)) Ab.out (by decide))) (fun _ hk=> trivial),by exact Kd.R_mono (rF_ (Kd.R_types (Kd.R_types Bn.out Aa.out (by decide)) Ab.out (by decide))) (fun _ hk=> trivial),by exact Kd.S_mono (sF_ (Kd.S_types (Kd.S_types Bu.out Aa.out (by decide)) Ab.out (by decide))) (fun _ hk=> trivial),bw_q HB⟩
   ·rw [if_neg c4] at H
    exact absurd H (by simp)
  ·rw [if_neg c3] at H
   exact absurd H (by simp)
 ·rw [if_neg c2] at H
  exact absurd H (by simp)

/-! ### spec_SameKey: function 52 -/
def spec_SameKey.f (a:Int) (b:Int) (c:Int) (d:Int) (j:Int) (l:List (S127)) (m:Int) (n:Bool) (e:Int) (g:Int) (h:Int) (i:Int) (o:Int) (p:List (S127)) (q:Int) (s:Bool):Option (Bool):=if a=e then (if b=g then (if c=h then (some (d==i)) else (some false)) else (some false)) else (some false)
set_option maxHeartbeats 8000000 in
set_option maxRecDepth 100000 in
theorem spec_SameKey.calls (Ag:Int) (Ah:Int) (Ai:Int) (Am:Int) (An:Int) (Ao:Option Addr) (Ap:Nat) (Ad:List (S127)) (Aq:Int) (Ar:Bool) (Aj:Int) (Ak:Int) (Al:Int) (As:Int) (At:Int) (Au:Option Addr) (Av:Nat) (Ae:List (S127)) (Aw:Int) (Ax:Bool) (r:Bool) (w:World) (hr0_5:Kd.C k127 w Ao Ad.length Ad) (hc0_5:Ad.length≤Ap) (hr1_5:Kd.C k127 w Au Ae.length Ae) (hc1_5:Ae.length≤Av) (h:spec_SameKey.f Ag Ah Ai Am An Ad Aq Ar Aj Ak Al As At Ae Aw Ax=some r):
  Calls Try.prog 52 #[.agg #[.int .i64 Ag,.int .i64 Ah,.int .i64 Ai,.int .i64 Am,.int .i64 An,.slice Ao Ad.length Ap,.int .i64 Aq,.bool Ar],.agg #[.int .i64 Aj,.int .i64 Ak,.int .i64 Al,.int .i64 As,.int .i64 At,.slice Au Ae.length Av,.int .i64 Aw,.bool Ax]] w fun e w'=> e=.returned (.bool r)∧Below w.heap.size w w':=by
 have hu61:=Try.underlying61;have Gg:=ak hr0_5;have Gh:=ak hc0_5;clear hr0_5 hc0_5;have Gi:=ak hr1_5;have Gj:=ak hc1_5;clear hr1_5 hc1_5;have HB:=ak (Below.refl w.heap.size w);have H:=h
 clear h;unfold spec_SameKey.f at H
 by_cases c3:Ag=Aj
 ·rw [if_pos c3] at H;have Bc:=bqi c3;have Bd:=bnf c3;clear c3
  by_cases c4:Ah=Ak
  ·rw [if_pos c4] at H;have Be:=bqi c4;have Bf:=bnf c4;clear c4
   by_cases c5:Ai=Al
   ·rw [if_pos c5] at H;have Bg:=bqi c5;have Bh:=bnf c5
    clear c5;obtain rfl:=Option.some.inj H
    go_enter Try.func52,Try.ntmps52
    go_wp2_with (first | ((with_reducible refine gate_dst (N:=2) rfl ?_);refine box_q 2 #[.int .i64 Ag,.int .i64 Ah,.int .i64 Ai,.int .i64 Am,.int .i64 An,.slice Ao Ad.length Ap,.int .i64 Aq,.bool Ar] 61 ?_;intro Ay hg w6 hbox hb;have Aa:=ak (hbox);have Az:=gs_ HB hg;replace HB:=hB_ HB hb;clear hb hbox hg) | ((with_reducible refine gate_dst (N:=3) rfl ?_);refine box_q 3 #[.int .i64 Aj,.int .i64 Ak,.int .i64 Al,.int .i64 As,.int .i64 At,.slice Au Ae.length Av,.int .i64 Aw,.bool Ax] 61 ?_;intro Ba hg w7 hbox hb;have Af:=ak (hbox);have Bb:=gs_ HB hg;replace HB:=hB_ HB hb;have Ab:=nb_ Aa hg;have Ac:=nB_ Aa hg;replace Aa:=bb_ Aa hb;clear hb hbox hg;have Gq:=Ab.out;have Gr:=Ac.out;obtain ⟨Fq,Fr,Fs,Ft,Fu,Fv,Fw,Fx,Fy,Fz,Ga,Gb,Gc,Gd,Ge,Gf⟩:=cf8_ Aa;obtain ⟨Bi,Bj,Bk,Bl,Bm,Bn,Bo,Bp,Bq,Br,Bs,Bt,Bu,Bv,Bw,Bx⟩:=cf8_ Af))
    go_ret
    exact ⟨er_q,bw_q HB⟩
   ·rw [if_neg c5] at H;have Bg:=bqf c5;have Bh:=bni c5;obtain rfl:=Option.some.inj H
    go_enter Try.func52,Try.ntmps52
    go_wp2_with (first | ((with_reducible refine gate_dst (N:=2) rfl ?_);refine box_q 2 #[.int .i64 Ag,.int .i64 Ah,.int .i64 Ai,.int .i64 Am,.int .i64 An,.slice Ao Ad.length Ap,.int .i64 Aq,.bool Ar] 61 ?_;intro Ay hg w11 hbox hb;have Aa:=ak (hbox);have Az:=gs_ HB hg;replace HB:=hB_ HB hb;clear hb hbox hg) | ((with_reducible refine gate_dst (N:=3) rfl ?_);refine box_q 3 #[.int .i64 Aj,.int .i64 Ak,.int .i64 Al,.int .i64 As,.int .i64 At,.slice Au Ae.length Av,.int .i64 Aw,.bool Ax] 61 ?_;intro Ba hg w12 hbox hb;have Af:=ak (hbox);have Bb:=gs_ HB hg;replace HB:=hB_ HB hb;have Ab:=nb_ Aa hg;have Ac:=nB_ Aa hg;replace Aa:=bb_ Aa hb;clear hb hbox hg;have Gk:=Ab.out;have Gl:=Ac.out;obtain ⟨By,Bz,Ca,Cb,Cc,Cd,Ce,Cf,Cg,Ch,Ci,Cj,Ck,Cl,Cm,Cn⟩:=cf8_ Aa;obtain ⟨Co,Cp,Cq,Cr,Cs,Ct,Cu,Cv,Cw,Cx,Cy,Cz,Da,Db,Dc,Dd⟩:=cf8_ Af))
    go_ret
    exact ⟨er_q,bw_q HB⟩
  ·rw [if_neg c4] at H;have Be:=bqf c4;have Bf:=bni c4;obtain rfl:=Option.some.inj H
   go_enter Try.func52,Try.ntmps52
   go_wp2_with (first | ((with_reducible refine gate_dst (N:=2) rfl ?_);refine box_q 2 #[.int .i64 Ag,.int .i64 Ah,.int .i64 Ai,.int .i64 Am,.int .i64 An,.slice Ao Ad.length Ap,.int .i64 Aq,.bool Ar] 61 ?_;intro Ay hg w16 hbox hb;have Aa:=ak (hbox);have Az:=gs_ HB hg;replace HB:=hB_ HB hb;clear hb hbox hg) | ((with_reducible refine gate_dst (N:=3) rfl ?_);refine box_q 3 #[.int .i64 Aj,.int .i64 Ak,.int .i64 Al,.int .i64 As,.int .i64 At,.slice Au Ae.length Av,.int .i64 Aw,.bool Ax] 61 ?_;intro Ba hg w17 hbox hb;have Af:=ak (hbox);have Bb:=gs_ HB hg;replace HB:=hB_ HB hb;have Ab:=nb_ Aa hg;have Ac:=nB_ Aa hg;replace Aa:=bb_ Aa hb;clear hb hbox hg;have Gm:=Ab.out;have Gn:=Ac.out;obtain ⟨De,Df,Dg,Dh,Di,Dj,Dk,Dl,Dm,Dn,Do,Dp,Dq,Dr,Ds,Dt⟩:=cf8_ Aa;obtain ⟨Du,Dv,Dw,Dx,Dy,Dz,Ea,Eb,Ec,Ed,Ee,Ef,Eg,Eh,Ei,Ej⟩:=cf8_ Af))
   go_ret
   exact ⟨er_q,bw_q HB⟩
 ·rw [if_neg c3] at H;have Bc:=bqf c3;have Bd:=bni c3;obtain rfl:=Option.some.inj H
  go_enter Try.func52,Try.ntmps52
  go_wp2_with (first | ((with_reducible refine gate_dst (N:=2) rfl ?_);refine box_q 2 #[.int .i64 Ag,.int .i64 Ah,.int .i64 Ai,.int .i64 Am,.int .i64 An,.slice Ao Ad.length Ap,.int .i64 Aq,.bool Ar] 61 ?_;intro Ay hg w21 hbox hb;have Aa:=ak (hbox);have Az:=gs_ HB hg;replace HB:=hB_ HB hb;clear hb hbox hg) | ((with_reducible refine gate_dst (N:=3) rfl ?_);refine box_q 3 #[.int .i64 Aj,.int .i64 Ak,.int .i64 Al,.int .i64 As,.int .i64 At,.slice Au Ae.length Av,.int .i64 Aw,.bool Ax] 61 ?_;intro Ba hg w22 hbox hb;have Af:=ak (hbox);have Bb:=gs_ HB hg;replace HB:=hB_ HB hb;have Ab:=nb_ Aa hg;have Ac:=nB_ Aa hg;replace Aa:=bb_ Aa hb;clear hb hbox hg;have Go:=Ab.out;have Gp:=Ac.out;obtain ⟨Ek,El,Em,En,Eo,Ep,Eq,Er,Es,Et,Eu,Ev,Ew,Ex,Ey,Ez⟩:=cf8_ Aa;obtain ⟨Fa,Fb,Fc,Fd,Fe,Ff,Fg,Fh,Fi,Fj,Fk,Fl,Fm,Fn,Fo,Fp⟩:=cf8_ Af))
  go_ret
  exact ⟨er_q,bw_q HB⟩

/-! ### spec_l05At: function 105 -/
def spec_l05At.l0:Nat→List (S61)→Int→Int→Int→Int→Int→Int→List (S127)→Int→Bool→Option (Int)
 | 0,_,_,_,_,_,_,_,_,_,_=> none
 | k+1,b,a,c,d,e,g,h,i,j,l=> if a<(b.length:Int) then (if 0≤a then ((spec_SameKey.f ((rd_T61 b a).f0) ((rd_T61 b a).f1) ((rd_T61 b a).f2) ((rd_T61 b a).f3) ((rd_T61 b a).f4) ((rd_T61 b a).f5) ((rd_T61 b a).f6) ((rd_T61 b a).f7) c d e g h i j l).bind fun m=> (if m=true then (some a) else (spec_l05At.l0 k b (wrap64 (a+1)) c d e g h i j l))) else (none)) else (some (-1))
def spec_l05At.f (k:Nat) (l0:List (S61)) (a:Int) (b:Int) (c:Int) (d:Int) (e:Int) (g:List (S127)) (h:Int) (i:Bool):Option (Int):=spec_l05At.l0 k l0 0 a b c d e g h i
theorem spec_l05At.mono_l:∀k,(∀y0 y1 y2 y3 y4 y5 y6 y7 y8 y9,LeO (spec_l05At.l0 k y0 y1 y2 y3 y4 y5 y6 y7 y8 y9) (spec_l05At.l0 (k+1) y0 y1 y2 y3 y4 y5 y6 y7 y8 y9))
 | 0=> fun _ _ _ _ _ _ _ _ _ _ r h=> by simp [spec_l05At.l0] at h
 | k+1=> by
  have ih0:=spec_l05At.mono_l k
  ·intro y0 y1 y2 y3 y4 y5 y6 y7 y8 y9
   unfold spec_l05At.l0
   with_reducible repeat' (first | apply ih0 | exact LeO.refl _ | exact LeO.none _ | refine LeO.ite ?_ ?_ | refine LeO.bind ?_ (fun _=> ?_))
theorem spec_l05At.mono:∀a0 a1 a2 a3 a4 a5 a6 a7 a8 k,LeO (spec_l05At.f k a0 a1 a2 a3 a4 a5 a6 a7 a8) (spec_l05At.f (k+1) a0 a1 a2 a3 a4 a5 a6 a7 a8):=by
 intro a0 a1 a2 a3 a4 a5 a6 a7 a8 k
 have ih0:=spec_l05At.mono_l k
 unfold spec_l05At.f
 with_reducible repeat' (first | apply ih0 | exact LeO.refl _ | exact LeO.none _ | refine LeO.ite ?_ ?_ | refine LeO.bind ?_ (fun _=> ?_))
set_option maxHeartbeats 8000000 in
set_option maxRecDepth 100000 in
theorem spec_l05At.calls (k:Nat) (A0:Option Addr) (c0:Nat) (l0:List (S61)) (Ad:Int) (Ae:Int) (Af:Int) (Ag:Int) (Ah:Int) (As:Option Addr) (At:Nat) (Ac:List (S127)) (Ai:Int) (Aj:Bool) (r:Int) (w:World) (hr0:Kd.C k61 w A0 l0.length l0) (hc0:l0.length≤c0) (hr1_5:Kd.C k127 w As Ac.length Ac) (hc1_5:Ac.length≤At) (h:spec_l05At.f k l0 Ad Ae Af Ag Ah Ac Ai Aj=some r):
  Calls Try.prog 105 #[.slice A0 l0.length c0,.agg #[.int .i64 Ad,.int .i64 Ae,.int .i64 Af,.int .i64 Ag,.int .i64 Ah,.slice As Ac.length At,.int .i64 Ai,.bool Aj]] w fun e w'=> e=.returned (.int .i64 r)∧Below w.heap.size w w':=by
 have hu61:=Try.underlying61;have HR0:=ak hr0;have Bf:=ak hc0;clear hr0 hc0;have Ay:=ak hr1_5;have Az:=ak hc1_5;clear hr1_5 hc1_5;have HB:=ak (Below.refl w.heap.size w);have H:=h
 clear h;unfold spec_l05At.f at H;have H':=ak H;clear H
 go_enter Try.func105,Try.ntmps105
 go_wp2_with (first | ((with_reducible refine gate_dst (N:=3) rfl ?_);refine box_q 3 #[.int .i64 Ad,.int .i64 Ae,.int .i64 Af,.int .i64 Ag,.int .i64 Ah,.slice As Ac.length At,.int .i64 Ai,.bool Aj] 61 ?_;intro Av hg w3 hbox hb;have Ab:=ak (hbox);have Bd:=gs_ HB hg;replace HB:=hB_ HB hb;clear hb hbox hg))
 go_loopg [5] k (fun kq v5 w'=> ∃(Aa:Int),v5=.int .i64 Aa∧Aside0 (spec_l05At.l0 kq l0 Aa Ad Ae Af Ag Ah Ac Ai Aj=some r)∧Aside0 (kq≤k)∧Aside0 (w'.heap[Av]? =some (.cells #[.int .i64 Ad,.int .i64 Ae,.int .i64 Af,.int .i64 Ag,.int .i64 Ah,(.slice As Ac.length At),.int .i64 Ai,.bool Aj] 61 (0,0)))∧Aside0 (Below w.heap.size w w'))
 case atStart=> exact ⟨(0),rs_q,H',⟨Nat.le_refl _⟩,⟨bk_q Ab⟩,⟨bw_q HB⟩⟩
 case round=>
  clear H';(try clear c1);(try clear p2);obtain ⟨Aa,rfl,HA,Bb,Ab,HB⟩:=hrel
  cases gk with
  | zero=> exact absurd HA.out (by simp [spec_l05At.l0])
  | succ k1=>
   have H:=HA.out;clear HA
   simp only [spec_l05At.l0] at H
   by_cases c4:Aa<(l0.length:Int)
   ·rw [if_pos c4] at H;have Bc:=decide_eq_true c4;clear c4
    by_cases c5:0≤Aa
    ·rw [if_pos c5] at H;have Be:=decide_eq_true c5
     clear c5;replace H:=bsi H;obtain ⟨Ax,A60,H⟩:=H
     (try dsimp only at H)
     have A6:=ak A60;clear A60;have HZ48:=ak H;clear H
     try go_wp2
     replace Ab:=ak (blk_drew Ab.out);replace HB:=ak (below_drew1 HB.out)
     have p482:0≤(Aa:Int):=of_decide_eq_true as_q
     have q482:Aa<(l0.length:Int):=of_decide_eq_true as_q
     obtain ⟨Ba,A482_5,c482_5,e482,Ak,Al,Am,An,Ao,Ap,Aq,Ar,hl482_5,hi482_5⟩:=at_T61 HR0.out Aa p482 q482;have hw482_7:=Ar;have hw482_6:=Aq;have hw482_5:=Ap;have hw482_4:=Ao;have hw482_3:=An;have hw482_2:=Am;have hw482_1:=Al;have hw482_0:=Ak
     cases e482
     obtain ⟨Ak,Al,Am,An,Ao,Ap,Aq,Ar⟩:=hb8_ HB Ak Al Am An Ao Ap Aq Ar;have Au:=ak hi482_5;have Aw:=ak hl482_5;clear hi482_5 hl482_5;replace p482:=eq_true p482;replace q482:=eq_true q482
     refine start_ (n:=6) (S:=fun w'=> cl8 w' Av (.int .i64 Ad) (.int .i64 Ae) (.int .i64 Af) (.int .i64 Ag) (.int .i64 Ah) (.slice As Ac.length At) (.int .i64 Ai) (.bool Aj)∧el8 w' (Ba.add ((Aa).toNat*8)) (.int .i64 ((rd_T61 l0 Aa).f0)) (.int .i64 ((rd_T61 l0 Aa).f1)) (.int .i64 ((rd_T61 l0 Aa).f2)) (.int .i64 ((rd_T61 l0 Aa).f3)) (.int .i64 ((rd_T61 l0 Aa).f4)) (.slice A482_5 ((rd_T61 l0 Aa).f5).length c482_5) (.int .i64 ((rd_T61 l0 Aa).f6)) (.bool ((rd_T61 l0 Aa).f7))) (ds:=[]) (bL 6 0) (by kernel_rfl) rfl rfl ⟨cz8_ Ab,hb8_ HB hw482_0 hw482_1 hw482_2 hw482_3 hw482_4 hw482_5 hw482_6 hw482_7⟩ (fun hHeld=> ?_)
     generalize wr.drew=w8 at Ab HB Au Ak Al Am An Ao Ap Aq Ar hHeld ⊢
     refine pR_ 0 ?_
     refine pR_ 1 ?_
     refine pR_ 2 ?_
     refine take_ (i:=3) (N:=some 15) (v:=?_) (a':=?_) (bL 6 15) rfl rfl (by kernel_rfl) (fun _ _ _ h=> h) (Or.inl ⟨by rfl,?_⟩) hHeld ?_ ?_;rotate_left;(rintro w' ⟨s0,s1⟩;go_simp;with_reducible rfl);rotate_left;(exact put_q)
     refine take_ (i:=4) (N:=some 16) (v:=?_) (a':=?_) (bL 6 31) rfl rfl (by kernel_rfl) (fun _ _ _ h=> h) (Or.inl ⟨by rfl,?_⟩) hHeld ?_ ?_;rotate_left;(rintro w' ⟨s0,s1⟩;go_simp;with_reducible rfl);rotate_left;(exact put_q)
     refine one_ (i:=5) (N:=some 17) (bL 6 63) rfl rfl (by kernel_rfl) (by decide) (fun K hK=> ?_)
     refine goes_ Try.func52 (by kernel_rfl) rfl #[.agg #[.int .i64 ((rd_T61 l0 Aa).f0),.int .i64 ((rd_T61 l0 Aa).f1),.int .i64 ((rd_T61 l0 Aa).f2),.int .i64 ((rd_T61 l0 Aa).f3),.int .i64 ((rd_T61 l0 Aa).f4),.slice A482_5 ((rd_T61 l0 Aa).f5).length c482_5,.int .i64 ((rd_T61 l0 Aa).f6),.bool ((rd_T61 l0 Aa).f7)],.agg #[.int .i64 Ad,.int .i64 Ae,.int .i64 Af,.int .i64 Ag,.int .i64 Ah,.slice As Ac.length At,.int .i64 Ai,.bool Aj]] (by rfl) rfl rfl mp_q ?_
     with_reducible refine (spec_SameKey.calls ((rd_T61 l0 Aa).f0) ((rd_T61 l0 Aa).f1) ((rd_T61 l0 Aa).f2) ((rd_T61 l0 Aa).f3) ((rd_T61 l0 Aa).f4) _ _ ((rd_T61 l0 Aa).f5) ((rd_T61 l0 Aa).f6) ((rd_T61 l0 Aa).f7) Ad Ae Af Ag Ah _ _ Ac Ai Aj Ax _ ?_ ?_ ?_ ?_ A6.out).mono ?_
     exact ch_ Au HB
     exact Aw.out
     exact ch_ Ay HB
     exact Az.out
     rintro e w9 ⟨rfl,hb⟩
     refine ⟨_,rfl,?_⟩
     replace Ab:=bb_ Ab hb;replace HB:=hB_ HB hb
     refine hK.out _ _ ⟨cz8_ Ab,hb8_ HB hw482_0 hw482_1 hw482_2 hw482_3 hw482_4 hw482_5 hw482_6 hw482_7⟩ (fun hHeld=> ?_)
     clear hK K
     refine norm_ (a':=?_) ?_ ?_;rotate_left;(show Act.put _ (some 17) _=_;simp only [Act.put,List.setIfInBounds_toArray,List.set_cons_zero,List.set_cons_succ,i64_w,i32_w];rfl)
     have H:=HZ48.out;clear HZ48
     by_cases c7:Ax=true
     ·subst c7;rw [if_pos rfl] at H;obtain rfl:=Option.some.inj H
      refine done_ (by kernel_rfl) ?_
      try go_wp2
      go_ret
      exact ⟨er_q,bw_q HB⟩
     ·replace c7:=Bool.eq_false_iff.mpr c7;subst c7
      rw [if_neg (show ¬(false=true) by decide)] at H
      have H':=ak H;clear H
      refine done_ (by kernel_rfl) ?_
      try go_wp2
      go_roundg k1
      case measure=> have:=Bb.out;omega
      case rel=> exact ⟨(wrap64 (Aa+1)),rs_q,H',⟨by have:=Bb.out;omega⟩,⟨bk_q Ab⟩,⟨bw_q HB⟩⟩
    ·rw [if_neg c5] at H
     exact absurd H (by simp)
   ·rw [if_neg c4] at H;have Bc:=decide_eq_false c4
    clear c4;obtain rfl:=Option.some.inj H
    go_wp2
    go_ret
    exact ⟨er_q,bw_q HB⟩

/-! ### spec_l05Put: function 132 -/
mutual
def spec_l05Put.l0:Nat→List (S61)→List (S61)→Int→Int→Int→Int→Int→Int→List (S127)→Int→Bool→Option ((List (S61)))
 | 0,_,_,_,_,_,_,_,_,_,_,_=> none
 | k+1,a,m,b,c,d,e,g,h,i,j,l=> if b<(a.length:Int) then (if 0≤b then ((spec_Before.f ((rd_T61 a b).f0) ((rd_T61 a b).f1) ((rd_T61 a b).f2) ((rd_T61 a b).f3) ((rd_T61 a b).f4) ((rd_T61 a b).f5) ((rd_T61 a b).f6) ((rd_T61 a b).f7) c d e g h i j l).bind fun n=> (if n=true then (if m.length<1759218604441 then (spec_l05Put.l0 k a (m++[(⟨(rd_T61 a b).f0,(rd_T61 a b).f1,(rd_T61 a b).f2,(rd_T61 a b).f3,(rd_T61 a b).f4,(rd_T61 a b).f5,(rd_T61 a b).f6,(rd_T61 a b).f7⟩:S61)]) (wrap64 (b+1)) c d e g h i j l) else (none)) else (spec_l05Put.l0 k a m (wrap64 (b+1)) c d e g h i j l))) else (none)) else (if m.length<1759218604441 then (spec_l05Put.l1 k a (m++[(⟨c,d,e,g,h,i,j,l⟩:S61)]) 0 c d e g h i j l) else (none))
def spec_l05Put.l1:Nat→List (S61)→List (S61)→Int→Int→Int→Int→Int→Int→List (S127)→Int→Bool→Option ((List (S61)))
 | 0,_,_,_,_,_,_,_,_,_,_,_=> none
 | k+1,b,m,a,c,d,e,g,h,i,j,l=> if a<(b.length:Int) then (if 0≤a then ((spec_Before.f c d e g h i j l ((rd_T61 b a).f0) ((rd_T61 b a).f1) ((rd_T61 b a).f2) ((rd_T61 b a).f3) ((rd_T61 b a).f4) ((rd_T61 b a).f5) ((rd_T61 b a).f6) ((rd_T61 b a).f7)).bind fun n=> (if n=true then (if m.length<1759218604441 then (spec_l05Put.l1 k b (m++[(⟨(rd_T61 b a).f0,(rd_T61 b a).f1,(rd_T61 b a).f2,(rd_T61 b a).f3,(rd_T61 b a).f4,(rd_T61 b a).f5,(rd_T61 b a).f6,(rd_T61 b a).f7⟩:S61)]) (wrap64 (a+1)) c d e g h i j l) else (none)) else (spec_l05Put.l1 k b m (wrap64 (a+1)) c d e g h i j l))) else (none)) else (some m)
end
def spec_l05Put.f (k:Nat) (l0:List (S61)) (a:Int) (b:Int) (c:Int) (d:Int) (e:Int) (g:List (S127)) (h:Int) (i:Bool):Option ((List (S61))):=spec_l05Put.l0 k l0 (([]:List (S61))) 0 a b c d e g h i
theorem spec_l05Put.mono_l:∀k,(∀y0 y1 y2 y3 y4 y5 y6 y7 y8 y9 y10,LeO (spec_l05Put.l0 k y0 y1 y2 y3 y4 y5 y6 y7 y8 y9 y10) (spec_l05Put.l0 (k+1) y0 y1 y2 y3 y4 y5 y6 y7 y8 y9 y10))∧(∀y0 y1 y2 y3 y4 y5 y6 y7 y8 y9 y10,LeO (spec_l05Put.l1 k y0 y1 y2 y3 y4 y5 y6 y7 y8 y9 y10) (spec_l05Put.l1 (k+1) y0 y1 y2 y3 y4 y5 y6 y7 y8 y9 y10))
 | 0=> ⟨fun _ _ _ _ _ _ _ _ _ _ _ r h=> by simp [spec_l05Put.l0] at h,fun _ _ _ _ _ _ _ _ _ _ _ r h=> by simp [spec_l05Put.l1] at h⟩
 | k+1=> by
  obtain ⟨ih0,ih1⟩:=spec_l05Put.mono_l k
  refine ⟨?_,?_⟩
  ·intro y0 y1 y2 y3 y4 y5 y6 y7 y8 y9 y10
   unfold spec_l05Put.l0
   with_reducible repeat' (first | apply ih0 | apply ih1 | exact LeO.refl _ | exact LeO.none _ | refine LeO.ite ?_ ?_ | refine LeO.bind ?_ (fun _=> ?_))
  ·intro y0 y1 y2 y3 y4 y5 y6 y7 y8 y9 y10
   unfold spec_l05Put.l1
   with_reducible repeat' (first | apply ih0 | apply ih1 | exact LeO.refl _ | exact LeO.none _ | refine LeO.ite ?_ ?_ | refine LeO.bind ?_ (fun _=> ?_))
theorem spec_l05Put.mono:∀a0 a1 a2 a3 a4 a5 a6 a7 a8 k,LeO (spec_l05Put.f k a0 a1 a2 a3 a4 a5 a6 a7 a8) (spec_l05Put.f (k+1) a0 a1 a2 a3 a4 a5 a6 a7 a8):=by
 intro a0 a1 a2 a3 a4 a5 a6 a7 a8 k
 obtain ⟨ih0,ih1⟩:=spec_l05Put.mono_l k
 unfold spec_l05Put.f
 with_reducible repeat' (first | apply ih0 | apply ih1 | exact LeO.refl _ | exact LeO.none _ | refine LeO.ite ?_ ?_ | refine LeO.bind ?_ (fun _=> ?_))
set_option maxHeartbeats 8000000 in
set_option maxRecDepth 100000 in
theorem spec_l05Put.calls (k:Nat) (P0_:Nat→Prop) (A0:Option Addr) (c0:Nat) (l0:List (S61)) (Ah:Int) (Ai:Int) (Aj:Int) (Ak:Int) (Al:Int) (P1_5_:Nat→Prop) (Ap:Option Addr) (Aq:Nat) (Ag:List (S127)) (Am:Int) (An:Bool) (r:List (S61)) (w:World) (hs0:Kd.V k61 61 w w.heap.size (fun k_=> P0_ k_) (.slice A0 l0.length c0) l0) (hs1_5:Kd.V k127 127 w w.heap.size (fun k_=> P1_5_ k_) (.slice Ap Ag.length Aq) Ag) (h:spec_l05Put.f k l0 Ah Ai Aj Ak Al Ag Am An=some r):
  Calls Try.prog 132 #[.slice A0 l0.length c0,.agg #[.int .i64 Ah,.int .i64 Ai,.int .i64 Aj,.int .i64 Ak,.int .i64 Al,.slice Ap Ag.length Aq,.int .i64 Am,.bool An]] w fun e w'=> ∃v0_:Value,e=.returned (v0_)∧Kd.N k61 61 w' w.heap.size (fun k_=> ((P0_ k_∨P1_5_ k_)∨w.heap.size≤k_)) v0_ r∧Below w.heap.size w w':=by
 have hu61:=Try.underlying61
 have Br:=ak (show Kd.V k61 61 w w.heap.size (fun k_=> ((P0_ k_∨P1_5_ k_)∨w.heap.size≤k_)) (.slice A0 l0.length c0) l0 from Kd.V_mono hs0 (fun k_ hk=> .inl (.inl hk)))
 have HO1_5:=ak (show Kd.V k127 127 w w.heap.size (fun k_=> ((P0_ k_∨P1_5_ k_)∨w.heap.size≤k_)) (.slice Ap Ag.length Aq) Ag from Kd.V_mono hs1_5 (fun k_ hk=> .inl (.inr hk)))
 have HB:=ak (Below.refl w.heap.size w);have H:=h
 clear h;unfold spec_l05Put.f at H;obtain ⟨Cw,Aw⟩:∃y_:List (S61),y_=(([]:List (S61))):=⟨_,rfl⟩
 replace H:(spec_l05Put.l0 k l0 Cw 0 Ah Ai Aj Ak Al Ag Am An)=some r:=by first | (rw [Aw];with_reducible exact H) | (have H2_:=(Option.bind_some _ _).symm.trans H;rw [Aw];with_reducible exact H2_) | (have H2_:=(Option.bind_some _ _).symm.trans H;with_reducible exact H2_) | with_reducible exact H | (rw [Aw];exact H) | exact H
 have Bs:=ak Aw;clear Aw;have H':=ak H;clear H
 go_enter Try.func132,Try.ntmps132
 go_wp2_with (first | ((with_reducible refine gate_dst (N:=3) rfl ?_);refine box_q 3 #[.int .i64 Ah,.int .i64 Ai,.int .i64 Aj,.int .i64 Ak,.int .i64 Al,.slice Ap Ag.length Aq,.int .i64 Am,.bool An] 61 ?_;intro Ad hg w3 hbox hb;replace Br:=ak (Kd.V_below (Kd.V_elderB (kV_q Br) Ad (Nat.le_of_eq hg.symm)) hb);replace HO1_5:=ak (Kd.V_below (Kd.V_elderB (kV_q HO1_5) Ad (Nat.le_of_eq hg.symm)) hb);have Ae:=ak (hbox);have Ec:=gs_ HB hg;replace HB:=hB_ HB hb;clear hb hbox hg) | ((with_reducible refine gate_dst (N:=8) rfl ?_);refine Kd.N_lit k61 _ 61 ?hg (N':=8) ?hd (xs:=([]:List (S61))) (inner:=[]) (ok:=(fun k_=> ((P0_ k_∨P1_5_ k_)∨w.heap.size≤k_)∧k_≠Ad)) (okp:=(fun k_=> ((P0_ k_∨P1_5_ k_)∨w.heap.size≤k_)∧k_≠Ad)) ?hr ?hp (fun _ hk=> hk) ((show ∀k_,w3.heap.size≤k_→(fun k_=> ((P0_ k_∨P1_5_ k_)∨w.heap.size≤k_)∧k_≠Ad) k_ from fun k_ hk=> ⟨(.inr (Nat.le_trans (below_size (bw_q HB)) hk)),Kd.freshB (g:=Ad) (o:=.cells #[.int .i64 Ah,.int .i64 Ai,.int .i64 Aj,.int .i64 Ak,.int .i64 Al,.slice Ap Ag.length Aq,.int .i64 Am,.bool An] 61 (0,0)) (bk_q Ae) k_ hk⟩) _ (Nat.le_refl _)) (Below.refl _ _) (Nat.le_refl _) (by simp) ?_;(case hd=> rfl);(case hg=> rfl);(case hr=> first | (go_simp;done) | (go_simp;rfl));(case hp=> exact (Reps.none _ _));intro v486 w4 ho5 hb hg_ hnew_;clear hg_ hnew_;(first | rw [←Bs.out] at ho5 | (simp only [Int.reduceToNat] at ho5;rw [←Bs.out] at ho5));replace Br:=ak (Kd.V_elder' (kV_q Br) (Kd.N_base ho5) hb);replace HO1_5:=ak (Kd.V_elder' (kV_q HO1_5) (Kd.N_base ho5) hb);have Dd:=ak (Kd.N_lower ho5 (below_size (bw_q HB)));replace Ae:=bb_ Ae hb;replace HB:=hB_ HB hb;clear hb ho5))
 go_loopg [5,6] k (fun kq v5 v6 w'=> ∃(At:List (S61)) (Aa:Int),v6=.int .i64 Aa∧Aside0 (spec_l05Put.l0 kq l0 At Aa Ah Ai Aj Ak Al Ag Am An=some r)∧Aside0 (kq≤k)∧Aside0 (Kd.V k61 61 w' w.heap.size (fun k_=> ((P0_ k_∨P1_5_ k_)∨w.heap.size≤k_)∧some k_≠(v5:Value).ownBlock∧k_≠Ad) (.slice A0 l0.length c0) l0)∧Aside0 (Kd.N k61 61 w' w.heap.size (fun k_=> ((P0_ k_∨P1_5_ k_)∨w.heap.size≤k_)∧k_≠Ad) v5 At)∧Aside0 (Kd.V k127 127 w' w.heap.size (fun k_=> ((P0_ k_∨P1_5_ k_)∨w.heap.size≤k_)∧some k_≠(v5:Value).ownBlock∧k_≠Ad) (.slice Ap Ag.length Aq) Ag)∧Aside0 (w'.heap[Ad]? =some (.cells #[.int .i64 Ah,.int .i64 Ai,.int .i64 Aj,.int .i64 Ak,.int .i64 Al,(.slice Ap Ag.length Aq),.int .i64 Am,.bool An] 61 (0,0)))∧Aside0 (Below w.heap.size w w'))
 case atStart=> exact ⟨(Cw),(0),rs_q,H',⟨Nat.le_refl _⟩,⟨by (with_reducible repeat (first | apply Kd.V_alloc | apply Kd.V_drewN | apply Kd.V_drew));exact Kd.V_mono Br.out (fun _ hk=> ⟨hk.1.1,⟨hk.2,hk.1.2⟩⟩)⟩,⟨by (with_reducible repeat (first | apply Kd.N_alloc | apply Kd.N_drewN | apply Kd.N_drew));exact Dd.out⟩,⟨by (with_reducible repeat (first | apply Kd.V_alloc | apply Kd.V_drewN | apply Kd.V_drew));exact Kd.V_mono HO1_5.out (fun _ hk=> ⟨hk.1.1,⟨hk.2,hk.1.2⟩⟩)⟩,⟨bk_q Ae⟩,⟨bw_q HB⟩⟩
 case round=>
  clear H';(try clear c1);(try clear p2);obtain ⟨At,Aa,rfl,HA,Bi,Af,Ao,Ac,Ae,HB⟩:=hrel
  cases gk with
  | zero=> exact absurd HA.out (by simp [spec_l05Put.l0])
  | succ k1=>
   have H:=HA.out;clear HA
   simp only [spec_l05Put.l0] at H
   by_cases c6:Aa<(l0.length:Int)
   ·rw [if_pos c6] at H;have Cx:=decide_eq_true c6;clear c6
    by_cases c7:0≤Aa
    ·rw [if_pos c7] at H;have Dq:=decide_eq_true c7
     clear c7;replace H:=bsi H;obtain ⟨Cy,A80,H⟩:=H
     (try dsimp only at H)
     have A8:=ak A80;clear A80;have HZ54:=ak H;clear H
     try go_wp2
     replace Af:=ak (Kd.V_drew Af.out);replace Ao:=ak (Kd.N_drew Ao.out);replace Ac:=ak (Kd.V_drew Ac.out);replace Ae:=ak (blk_drew Ae.out);replace HB:=ak (below_drew1 HB.out)
     have p488:0≤(Aa:Int):=of_decide_eq_true as_q
     have q488:Aa<(l0.length:Int):=of_decide_eq_true as_q
     obtain ⟨Bt,A488_5,c488_5,e488,Ba,Bb,Bc,Bd,Be,Au,Bf,Bg,hl488_5,hi488_5⟩:=at_T61 (Kd.V_reads' Af.out).2.2 Aa p488 q488
     cases e488
     obtain ⟨ce488,hce488,hMe488,hcc488⟩:=Kd.V_get Af.out z61 Aa p488 (by first | exact q488 | exact of_decide_eq_true as_q | (have e_:=(Kd.V_reads' Af.out).1;omega))
     obtain ⟨ua488_5,uc488_5,rfl,ul488_5,ge488_5⟩:=k61_openF hMe488;have hv488_5:=hcc488 5 _ rfl
     rw [add_field _ _ 5 (by omega)] at hv488_5
     replace hv488_5:=Option.some.inj (hv488_5.symm.trans Au)
     injection hv488_5 with hva_ hvn_ hvc_
     rw [hva_] at ge488_5;rw [hvc_] at ul488_5
     have HL488_5:=ak (show Kd.V k127 127 _ w.heap.size _ _ ((rd_T61 l0 Aa).f5) from Kd.V_mk ul488_5 ge488_5)
     clear hva_ hvn_ hvc_ ge488_5 ul488_5;clear hcc488 hce488;have Ar:=ak hi488_5;have Bw:=ak hl488_5;clear hi488_5 hl488_5;replace p488:=eq_true p488;replace q488:=eq_true q488
     refine start_ (n:=6) (S:=fun w'=> cl8 w' Ad (.int .i64 Ah) (.int .i64 Ai) (.int .i64 Aj) (.int .i64 Ak) (.int .i64 Al) (.slice Ap Ag.length Aq) (.int .i64 Am) (.bool An)∧el8 w' (Bt.add ((Aa).toNat*8)) (.int .i64 ((rd_T61 l0 Aa).f0)) (.int .i64 ((rd_T61 l0 Aa).f1)) (.int .i64 ((rd_T61 l0 Aa).f2)) (.int .i64 ((rd_T61 l0 Aa).f3)) (.int .i64 ((rd_T61 l0 Aa).f4)) (.slice A488_5 ((rd_T61 l0 Aa).f5).length c488_5) (.int .i64 ((rd_T61 l0 Aa).f6)) (.bool ((rd_T61 l0 Aa).f7))) (ds:=[]) (bL 6 0) (by kernel_rfl) rfl rfl ⟨cz8_ Ae,⟨Ba,Bb,Bc,Bd,Be,Au,Bf,Bg⟩⟩ (fun hHeld=> ?_)
     generalize wr.drew=w11 at Af Ao Ac Ae HB HL488_5 Ar Ba Bb Bc Bd Be Au Bf Bg hHeld ⊢
     refine pR_ 0 ?_
     refine pR_ 1 ?_
     refine pR_ 2 ?_
     refine take_ (i:=3) (N:=some 18) (v:=?_) (a':=?_) (bL 6 15) rfl rfl (by kernel_rfl) (fun _ _ _ h=> h) (Or.inl ⟨by rfl,?_⟩) hHeld ?_ ?_;rotate_left;(rintro w' ⟨s0,s1⟩;go_simp;with_reducible rfl);rotate_left;(exact put_q)
     refine take_ (i:=4) (N:=some 19) (v:=?_) (a':=?_) (bL 6 31) rfl rfl (by kernel_rfl) (fun _ _ _ h=> h) (Or.inl ⟨by rfl,?_⟩) hHeld ?_ ?_;rotate_left;(rintro w' ⟨s0,s1⟩;go_simp;with_reducible rfl);rotate_left;(exact put_q)
     refine one_ (i:=5) (N:=some 20) (bL 6 63) rfl rfl (by kernel_rfl) (by decide) (fun K hK=> ?_)
     refine goes_ Try.func72 (by kernel_rfl) rfl #[.agg #[.int .i64 ((rd_T61 l0 Aa).f0),.int .i64 ((rd_T61 l0 Aa).f1),.int .i64 ((rd_T61 l0 Aa).f2),.int .i64 ((rd_T61 l0 Aa).f3),.int .i64 ((rd_T61 l0 Aa).f4),.slice A488_5 ((rd_T61 l0 Aa).f5).length c488_5,.int .i64 ((rd_T61 l0 Aa).f6),.bool ((rd_T61 l0 Aa).f7)],.agg #[.int .i64 Ah,.int .i64 Ai,.int .i64 Aj,.int .i64 Ak,.int .i64 Al,.slice Ap Ag.length Aq,.int .i64 Am,.bool An]] (by rfl) rfl rfl mp_q ?_
     with_reducible refine (spec_Before.calls ((rd_T61 l0 Aa).f0) ((rd_T61 l0 Aa).f1) ((rd_T61 l0 Aa).f2) ((rd_T61 l0 Aa).f3) ((rd_T61 l0 Aa).f4) _ _ ((rd_T61 l0 Aa).f5) ((rd_T61 l0 Aa).f6) ((rd_T61 l0 Aa).f7) Ah Ai Aj Ak Al _ _ Ag Am An Cy _ ?_ ?_ ?_ ?_ A8.out).mono ?_
     (focus repeat (first | exact (by repeat (first | (with_reducible exact Ar.out) | (with_reducible refine Kd.C_alloc ?_ _) | (with_reducible refine Kd.C_drewN ?_ _) | (with_reducible refine Kd.C_drew ?_) | exact Ar.out)) | (with_reducible refine Kd.C_alloc ?_ _) | (with_reducible refine Kd.C_drewN ?_ _) | (with_reducible refine Kd.C_drew ?_)))
     exact Bw.out
     (focus repeat (first | exact (Kd.V_reads' Ac.out).2.2 | (with_reducible refine Kd.C_alloc ?_ _) | (with_reducible refine Kd.C_drewN ?_ _) | (with_reducible refine Kd.C_drew ?_)))
     exact (Kd.V_reads' Ac.out).2.1
     rintro e w12 ⟨rfl,hb⟩
     have HS8_:=(hb.cell (World.block_lt_of_cell? _ _ (hHeld.2.1))).trans (hHeld.2.1)
     have HS9_:=(hb.cell (World.block_lt_of_cell? _ _ (hHeld.2.2.1))).trans (hHeld.2.2.1)
     have HS10_:=(hb.cell (World.block_lt_of_cell? _ _ (hHeld.2.2.2.1))).trans (hHeld.2.2.2.1)
     have HS11_:=(hb.cell (World.block_lt_of_cell? _ _ (hHeld.2.2.2.2.1))).trans (hHeld.2.2.2.2.1)
     have HS12_:=(hb.cell (World.block_lt_of_cell? _ _ (hHeld.2.2.2.2.2.1))).trans (hHeld.2.2.2.2.2.1)
     have HS13_:=(hb.cell (World.block_lt_of_cell? _ _ (hHeld.2.2.2.2.2.2.1))).trans (hHeld.2.2.2.2.2.2.1)
     have HS14_:=(hb.cell (World.block_lt_of_cell? _ _ (hHeld.2.2.2.2.2.2.2.1))).trans (hHeld.2.2.2.2.2.2.2.1)
     have HS15_:=(hb.cell (World.block_lt_of_cell? _ _ (hHeld.2.2.2.2.2.2.2.2))).trans (hHeld.2.2.2.2.2.2.2.2)
     refine ⟨_,rfl,?_⟩
     replace Af:=ak (Kd.V_below (kV_q Af) hb);replace Ao:=ak (Kd.N_below (kN_q Ao) hb);replace Ac:=ak (Kd.V_below (kV_q Ac) hb);replace HL488_5:=ak (Kd.V_below (kV_q HL488_5) hb);replace Ae:=bb_ Ae hb
     replace Ar:=ak (Kd.C_below (by repeat (first | (with_reducible exact Ar.out) | (with_reducible refine Kd.C_alloc ?_ _) | (with_reducible refine Kd.C_drewN ?_ _) | (with_reducible refine Kd.C_drew ?_) | exact Ar.out)) hb)
     replace HB:=hB_ HB hb
     refine hK.out _ _ ⟨cz8_ Ae,⟨HS8_,HS9_,HS10_,HS11_,HS12_,HS13_,HS14_,HS15_⟩⟩ (fun hHeld=> ?_)
     clear hK K
     refine norm_ (a':=?_) ?_ ?_;rotate_left;(show Act.put _ (some 20) _=_;simp only [Act.put,List.setIfInBounds_toArray,List.set_cons_zero,List.set_cons_succ,i64_w,i32_w];rfl)
     have H:=HZ54.out;clear HZ54
     by_cases c9:Cy=true
     ·subst c9;rw [if_pos rfl] at H
      by_cases c10:At.length<1759218604441
      ·rw [if_pos c10] at H;have De:=ak c10;clear c10;obtain ⟨Cz,Ax⟩:∃y_:List (S61),y_=(At++[(⟨(rd_T61 l0 Aa).f0,(rd_T61 l0 Aa).f1,(rd_T61 l0 Aa).f2,(rd_T61 l0 Aa).f3,(rd_T61 l0 Aa).f4,(rd_T61 l0 Aa).f5,(rd_T61 l0 Aa).f6,(rd_T61 l0 Aa).f7⟩:S61)]):=⟨_,rfl⟩
       replace H:(spec_l05Put.l0 k1 l0 Cz (wrap64 (Aa+1)) Ah Ai Aj Ak Al Ag Am An)=some r:=by first | (rw [Ax];with_reducible exact H) | (have H2_:=(Option.bind_some _ _).symm.trans H;rw [Ax];with_reducible exact H2_) | (have H2_:=(Option.bind_some _ _).symm.trans H;with_reducible exact H2_) | with_reducible exact H | (rw [Ax];exact H) | exact H
       have Df:=ak Ax;clear Ax;have H':=ak H;clear H
       refine done_ (by kernel_rfl) ?_
       (try clear HS8_);(try clear HS9_);(try clear HS10_);(try clear HS11_);(try clear HS12_);(try clear HS13_);(try clear HS14_);(try clear HS15_);(try clear hHeld)
       have p490:0≤(Aa:Int):=of_decide_eq_true as_q
       have q490:Aa<(l0.length:Int):=of_decide_eq_true as_q
       obtain ⟨Dg,A490_5,c490_5,e490,Bx,By,Bz,Ca,Cb,Bj,Cc,Cd,hl490_5,hi490_5⟩:=at_T61 (Kd.V_reads' Af.out).2.2 Aa p490 q490
       obtain rfl:Bt=Dg:=(by injection e490)
       obtain ⟨ce490,hce490,hMe490,hcc490⟩:=Kd.V_get Af.out z61 Aa p490 (by first | exact q490 | exact of_decide_eq_true as_q | (have e_:=(Kd.V_reads' Af.out).1;omega))
       obtain ⟨ua490_5,uc490_5,rfl,ul490_5,ge490_5⟩:=k61_openF hMe490;have hv490_5:=hcc490 5 _ rfl
       rw [add_field _ _ 5 (by omega)] at hv490_5
       replace hv490_5:=Option.some.inj (hv490_5.symm.trans Bj)
       injection hv490_5 with hva_ hvn_ hvc_
       rw [hva_] at ge490_5;rw [hvc_] at ul490_5
       have HL490_5:=ak (show Kd.V k127 127 _ w.heap.size _ _ ((rd_T61 l0 Aa).f5) from Kd.V_mk ul490_5 ge490_5)
       clear hva_ hvn_ hvc_ ge490_5 ul490_5;clear hcc490 hce490;have Dr:=ak hi490_5;have Ds:=ak hl490_5;clear hi490_5 hl490_5;replace p490:=eq_true p490;replace q490:=eq_true q490
       try go_wp2_with (first | ((with_reducible refine gate_builtin (b:=.append) (xs:=#[.tmp 21,.tmp 26]) rfl ?_);at_builtin;refine Kd.N_append k61 (w0:=w) w.heap.size rfl (.tmp 21) (.tmp 26) 41 61 (.agg #[(.int .i64 0),(.int .i64 0),(.int .i64 0),(.int .i64 0),(.int .i64 0),(.slice none 0 0),(.int .i64 0),(.bool false)]) 80 rfl Try.underlying41 info61 rfl (by decide) (by omega) u5 At (⟨(rd_T61 l0 Aa).f0,(rd_T61 l0 Aa).f1,(rd_T61 l0 Aa).f2,(rd_T61 l0 Aa).f3,(rd_T61 l0 Aa).f4,(rd_T61 l0 Aa).f5,(rd_T61 l0 Aa).f6,(rd_T61 l0 Aa).f7⟩:S61) [.int .i64 ((rd_T61 l0 Aa).f0),.int .i64 ((rd_T61 l0 Aa).f1),.int .i64 ((rd_T61 l0 Aa).f2),.int .i64 ((rd_T61 l0 Aa).f3),.int .i64 ((rd_T61 l0 Aa).f4),.slice A490_5 ((rd_T61 l0 Aa).f5).length c490_5,.int .i64 ((rd_T61 l0 Aa).f6),.bool ((rd_T61 l0 Aa).f7)] (fun k_=> ((P0_ k_∨P1_5_ k_)∨w.heap.size≤k_)∧k_≠Ad) (fun k_=> ((fun k_=> ((P0_ k_∨P1_5_ k_)∨w.heap.size≤k_)∧k_≠Ad)) k_∧some k_≠(u5:Value).ownBlock) rfl rfl ?_ (fun _ hk=> hk) ?_ ?_ ?_ ?_ ?_ ?_;exact (k61_mkF _ _ (⟨(rd_T61 l0 Aa).f0,(rd_T61 l0 Aa).f1,(rd_T61 l0 Aa).f2,(rd_T61 l0 Aa).f3,(rd_T61 l0 Aa).f4,(rd_T61 l0 Aa).f5,(rd_T61 l0 Aa).f6,(rd_T61 l0 Aa).f7⟩:S61) (Kd.V_reads' (Kd.V_mono (ok':=(fun k_=> ((fun k_=> ((P0_ k_∨P1_5_ k_)∨w.heap.size≤k_)∧k_≠Ad)) k_∧some k_≠(u5:Value).ownBlock)) (HL490_5.out) (fun k_ hk=> ⟨⟨hk.1,hk.2.2⟩,hk.2.1⟩))).2.1 (Kd.V_F (Kd.V_mono (ok':=(fun k_=> ((fun k_=> ((P0_ k_∨P1_5_ k_)∨w.heap.size≤k_)∧k_≠Ad)) k_∧some k_≠(u5:Value).ownBlock)) (HL490_5.out) (fun k_ hk=> ⟨⟨hk.1,hk.2.2⟩,hk.2.1⟩))));exact (fun k_ hk=> ⟨(.inr (Nat.le_trans (below_size (bw_q HB)) hk)),Kd.freshB (g:=Ad) (o:=.cells #[.int .i64 Ah,.int .i64 Ai,.int .i64 Aj,.int .i64 Ak,.int .i64 Al,.slice Ap Ag.length Aq,.int .i64 Am,.bool An] 61 (0,0)) (bk_q Ae) k_ hk⟩);exact (kN_q Ao);exact (bw_q HB);exact (below_size (bw_q HB));(focus have:=De.out;omega);intro v492 w13 ho hb hg hat;rw [←Df.out] at ho;replace Af:=ak (Kd.V_afterv (ok:=(fun k_=> ((P0_ k_∨P1_5_ k_)∨w.heap.size≤k_)∧k_≠Ad)) (by (with_reducible repeat (first | apply Kd.V_alloc | apply Kd.V_drewN | apply Kd.V_drew));exact Kd.V_mono Af.out (fun _ hk=> ⟨⟨hk.1,hk.2.2⟩,hk.2.1⟩)) hg hat);replace Ac:=ak (Kd.V_afterv (ok:=(fun k_=> ((P0_ k_∨P1_5_ k_)∨w.heap.size≤k_)∧k_≠Ad)) (by (with_reducible repeat (first | apply Kd.V_alloc | apply Kd.V_drewN | apply Kd.V_drew));exact Kd.V_mono Ac.out (fun _ hk=> ⟨⟨hk.1,hk.2.2⟩,hk.2.1⟩)) hg hat);replace Ae:=bG_ Ae hg (Kd.N_away Ao.out (fun _ hk=> hk.2));replace HL488_5:=ak (Kd.V_afterv (ok:=(fun k_=> ((P0_ k_∨P1_5_ k_)∨w.heap.size≤k_)∧k_≠Ad)) (by (with_reducible repeat (first | apply Kd.V_alloc | apply Kd.V_drewN | apply Kd.V_drew));exact Kd.V_mono HL488_5.out (fun _ hk=> ⟨⟨hk.1,hk.2.2⟩,hk.2.1⟩)) hg hat);replace HL490_5:=ak (Kd.V_afterv (ok:=(fun k_=> ((P0_ k_∨P1_5_ k_)∨w.heap.size≤k_)∧k_≠Ad)) (by (with_reducible repeat (first | apply Kd.V_alloc | apply Kd.V_drewN | apply Kd.V_drew));exact Kd.V_mono HL490_5.out (fun _ hk=> ⟨⟨hk.1,hk.2.2⟩,hk.2.1⟩)) hg hat);replace HB:=ak (hb);have Dh:=ak (ho);clear Ao;clear ho hb hg hat))
       go_roundg k1
       case measure=> have:=Bi.out;omega
       case rel=> exact ⟨(Cz),(wrap64 (Aa+1)),rs_q,H',⟨by have:=Bi.out;omega⟩,⟨by (with_reducible repeat (first | apply Kd.V_alloc | apply Kd.V_drewN | apply Kd.V_drew));exact Kd.V_mono Af.out (fun _ hk=> ⟨hk.1.1,⟨hk.2,hk.1.2⟩⟩)⟩,⟨by (with_reducible repeat (first | apply Kd.N_alloc | apply Kd.N_drewN | apply Kd.N_drew));exact Dh.out⟩,⟨by (with_reducible repeat (first | apply Kd.V_alloc | apply Kd.V_drewN | apply Kd.V_drew));exact Kd.V_mono Ac.out (fun _ hk=> ⟨hk.1.1,⟨hk.2,hk.1.2⟩⟩)⟩,⟨bk_q Ae⟩,⟨bw_q HB⟩⟩
      ·rw [if_neg c10] at H
       exact absurd H (by simp)
     ·replace c9:=Bool.eq_false_iff.mpr c9;subst c9
      rw [if_neg (show ¬(false=true) by decide)] at H
      have H':=ak H;clear H
      refine done_ (by kernel_rfl) ?_
      (try clear HS8_);(try clear HS9_);(try clear HS10_);(try clear HS11_);(try clear HS12_);(try clear HS13_);(try clear HS14_);(try clear HS15_);(try clear hHeld)
      try go_wp2
      go_roundg k1
      case measure=> have:=Bi.out;omega
      case rel=> exact ⟨(At),(wrap64 (Aa+1)),rs_q,H',⟨by have:=Bi.out;omega⟩,⟨by (with_reducible repeat (first | apply Kd.V_alloc | apply Kd.V_drewN | apply Kd.V_drew));exact Af.out⟩,⟨by (with_reducible repeat (first | apply Kd.N_alloc | apply Kd.N_drewN | apply Kd.N_drew));exact Ao.out⟩,⟨by (with_reducible repeat (first | apply Kd.V_alloc | apply Kd.V_drewN | apply Kd.V_drew));exact Ac.out⟩,⟨bk_q Ae⟩,⟨bw_q HB⟩⟩
    ·rw [if_neg c7] at H
     exact absurd H (by simp)
   ·rw [if_neg c6] at H;have Cx:=decide_eq_false c6;clear c6
    by_cases c16:At.length<1759218604441
    ·rw [if_pos c16] at H;have Di:=ak c16;clear c16;obtain ⟨Da,Ay⟩:∃y_:List (S61),y_=(At++[(⟨Ah,Ai,Aj,Ak,Al,Ag,Am,An⟩:S61)]):=⟨_,rfl⟩
     replace H:(spec_l05Put.l1 k1 l0 Da 0 Ah Ai Aj Ak Al Ag Am An)=some r:=by first | (rw [Ay];with_reducible exact H) | (have H2_:=(Option.bind_some _ _).symm.trans H;rw [Ay];with_reducible exact H2_) | (have H2_:=(Option.bind_some _ _).symm.trans H;with_reducible exact H2_) | with_reducible exact H | (rw [Ay];exact H) | exact H
     have Dj:=ak Ay;clear Ay;have H':=ak H;clear H;obtain ⟨Ce,Cf,Cg,Ch,Ci,Cj,Ck,Cl,Cm,Cn,Co,Cp,Cq,Cr,Cs,Ct⟩:=cf8_ Ae
     go_wp2_with (first | ((with_reducible refine gate_builtin (b:=.append) (xs:=#[.tmp 28,.tmp 30]) rfl ?_);at_builtin;refine Kd.N_append k61 (w0:=w) w.heap.size rfl (.tmp 28) (.tmp 30) 41 61 (.agg #[(.int .i64 0),(.int .i64 0),(.int .i64 0),(.int .i64 0),(.int .i64 0),(.slice none 0 0),(.int .i64 0),(.bool false)]) 80 rfl Try.underlying41 info61 rfl (by decide) (by omega) u5 At (⟨Ah,Ai,Aj,Ak,Al,Ag,Am,An⟩:S61) [.int .i64 Ah,.int .i64 Ai,.int .i64 Aj,.int .i64 Ak,.int .i64 Al,.slice Ap Ag.length Aq,.int .i64 Am,.bool An] (fun k_=> ((P0_ k_∨P1_5_ k_)∨w.heap.size≤k_)∧k_≠Ad) (fun k_=> ((fun k_=> ((P0_ k_∨P1_5_ k_)∨w.heap.size≤k_)∧k_≠Ad)) k_∧some k_≠(u5:Value).ownBlock) rfl rfl ?_ (fun _ hk=> hk) ?_ ?_ ?_ ?_ ?_ ?_;exact (k61_mkF _ _ (⟨Ah,Ai,Aj,Ak,Al,Ag,Am,An⟩:S61) (Kd.V_reads' (Kd.V_mono (ok':=(fun k_=> ((fun k_=> ((P0_ k_∨P1_5_ k_)∨w.heap.size≤k_)∧k_≠Ad)) k_∧some k_≠(u5:Value).ownBlock)) (Ac.out) (fun k_ hk=> ⟨⟨hk.1,hk.2.2⟩,hk.2.1⟩))).2.1 (Kd.V_F (Kd.V_mono (ok':=(fun k_=> ((fun k_=> ((P0_ k_∨P1_5_ k_)∨w.heap.size≤k_)∧k_≠Ad)) k_∧some k_≠(u5:Value).ownBlock)) (Ac.out) (fun k_ hk=> ⟨⟨hk.1,hk.2.2⟩,hk.2.1⟩))));exact (fun k_ hk=> ⟨(.inr (Nat.le_trans (below_size (bw_q HB)) hk)),Kd.freshB (g:=Ad) (o:=.cells #[.int .i64 Ah,.int .i64 Ai,.int .i64 Aj,.int .i64 Ak,.int .i64 Al,.slice Ap Ag.length Aq,.int .i64 Am,.bool An] 61 (0,0)) (bk_q Ae) k_ hk⟩);exact (kN_q Ao);exact (bw_q HB);exact (below_size (bw_q HB));(focus have:=Di.out;omega);intro v495 w18 ho hb hg hat;rw [←Dj.out] at ho;replace Af:=ak (Kd.V_afterv (ok:=(fun k_=> ((P0_ k_∨P1_5_ k_)∨w.heap.size≤k_)∧k_≠Ad)) (by (with_reducible repeat (first | apply Kd.V_alloc | apply Kd.V_drewN | apply Kd.V_drew));exact Kd.V_mono Af.out (fun _ hk=> ⟨⟨hk.1,hk.2.2⟩,hk.2.1⟩)) hg hat);replace Ac:=ak (Kd.V_afterv (ok:=(fun k_=> ((P0_ k_∨P1_5_ k_)∨w.heap.size≤k_)∧k_≠Ad)) (by (with_reducible repeat (first | apply Kd.V_alloc | apply Kd.V_drewN | apply Kd.V_drew));exact Kd.V_mono Ac.out (fun _ hk=> ⟨⟨hk.1,hk.2.2⟩,hk.2.1⟩)) hg hat);replace Ae:=bG_ Ae hg (Kd.N_away Ao.out (fun _ hk=> hk.2));replace HB:=ak (hb);have Dk:=ak (ho);clear Ao;clear ho hb hg hat))
     go_loopg [5,7] k1 (fun kq v5 v7 w'=> ∃(Av:List (S61)) (Ab:Int),v7=.int .i64 Ab∧Aside0 (spec_l05Put.l1 kq l0 Av Ab Ah Ai Aj Ak Al Ag Am An=some r)∧Aside0 (kq≤k1)∧Aside0 (Kd.V k61 61 w' w.heap.size (fun k_=> ((P0_ k_∨P1_5_ k_)∨w.heap.size≤k_)∧some k_≠(v5:Value).ownBlock∧k_≠Ad) (.slice A0 l0.length c0) l0)∧Aside0 (Kd.N k61 61 w' w.heap.size (fun k_=> ((P0_ k_∨P1_5_ k_)∨w.heap.size≤k_)∧k_≠Ad) v5 Av)∧Aside0 (Kd.V k127 127 w' w.heap.size (fun k_=> ((P0_ k_∨P1_5_ k_)∨w.heap.size≤k_)∧some k_≠(v5:Value).ownBlock∧k_≠Ad) (.slice Ap Ag.length Aq) Ag)∧Aside0 (w'.heap[Ad]? =some (.cells #[.int .i64 Ah,.int .i64 Ai,.int .i64 Aj,.int .i64 Ak,.int .i64 Al,(.slice Ap Ag.length Aq),.int .i64 Am,.bool An] 61 (0,0)))∧Aside0 (Below w.heap.size w w'))
     case atStart=> exact ⟨(Da),(0),rs_q,H',⟨Nat.le_refl _⟩,⟨by (with_reducible repeat (first | apply Kd.V_alloc | apply Kd.V_drewN | apply Kd.V_drew));exact Kd.V_mono Af.out (fun _ hk=> ⟨hk.1.1,⟨hk.2,hk.1.2⟩⟩)⟩,⟨by (with_reducible repeat (first | apply Kd.N_alloc | apply Kd.N_drewN | apply Kd.N_drew));exact Dk.out⟩,⟨by (with_reducible repeat (first | apply Kd.V_alloc | apply Kd.V_drewN | apply Kd.V_drew));exact Kd.V_mono Ac.out (fun _ hk=> ⟨hk.1.1,⟨hk.2,hk.1.2⟩⟩)⟩,⟨bk_q Ae⟩,⟨bw_q HB⟩⟩
     case round=>
      clear H';(try clear c1);(try clear p2);(try clear c4);(try clear p4);(try clear q4);(try clear hx4);(try clear c6);(try clear Cx);(try clear p6);(try clear c7);(try clear Dq);(try clear c9);(try clear c10);(try clear c13);(try clear c16)
      try clear Ce Cf Cg Ch Ci Cj Ck Cl
      try clear Cm Cn Co Cp Cq Cr Cs Ct
      (try clear Ba);(try clear Bb);(try clear Bc);(try clear Bd);(try clear Be);(try clear Au);(try clear Bf);(try clear Bg);(try clear Bx);(try clear By);(try clear Bz);(try clear Ca);(try clear Cb);(try clear Bj);(try clear Cc);(try clear Cd);(try clear p2);(try clear p488);(try clear p490);(try clear q488);(try clear q490);obtain ⟨Av,Ab,rfl,HA,Bu,Af,Ao,Ac,Ae,HB⟩:=hrel
      cases gk with
      | zero=> exact absurd HA.out (by simp [spec_l05Put.l1])
      | succ k2=>
       have H:=HA.out;clear HA
       simp only [spec_l05Put.l1] at H
       by_cases c19:Ab<(l0.length:Int)
       ·rw [if_pos c19] at H;have Dl:=decide_eq_true c19;clear c19
        by_cases c20:0≤Ab
        ·rw [if_pos c20] at H;have Ed:=decide_eq_true c20
         clear c20;replace H:=bsi H;obtain ⟨Db,A210,H⟩:=H
         (try dsimp only at H)
         have A21:=ak A210;clear A210;have HZ55:=ak H;clear H
         try go_wp2
         replace Af:=ak (Kd.V_drew Af.out);replace Ao:=ak (Kd.N_drew Ao.out);replace Ac:=ak (Kd.V_drew Ac.out);replace Ae:=ak (blk_drew Ae.out);replace HB:=ak (below_drew1 HB.out)
         have p497:0≤(Ab:Int):=of_decide_eq_true as_q
         have q497:Ab<(l0.length:Int):=of_decide_eq_true as_q
         obtain ⟨Bv,A497_5,c497_5,e497,Bk,Bl,Bm,Bn,Bo,Bh,Bp,Bq,hl497_5,hi497_5⟩:=at_T61 (Kd.V_reads' Af.out).2.2 Ab p497 q497
         cases e497
         obtain ⟨ce497,hce497,hMe497,hcc497⟩:=Kd.V_get Af.out z61 Ab p497 (by first | exact q497 | exact of_decide_eq_true as_q | (have e_:=(Kd.V_reads' Af.out).1;omega))
         obtain ⟨ua497_5,uc497_5,rfl,ul497_5,ge497_5⟩:=k61_openF hMe497;have hv497_5:=hcc497 5 _ rfl
         rw [add_field _ _ 5 (by omega)] at hv497_5
         replace hv497_5:=Option.some.inj (hv497_5.symm.trans Bh)
         injection hv497_5 with hva_ hvn_ hvc_
         rw [hva_] at ge497_5;rw [hvc_] at ul497_5
         have HL497_5:=ak (show Kd.V k127 127 _ w.heap.size _ _ ((rd_T61 l0 Ab).f5) from Kd.V_mk ul497_5 ge497_5)
         clear hva_ hvn_ hvc_ ge497_5 ul497_5;clear hcc497 hce497;have As:=ak hi497_5;have Cu:=ak hl497_5;clear hi497_5 hl497_5;replace p497:=eq_true p497;replace q497:=eq_true q497
         refine start_ (n:=6) (S:=fun w'=> cl8 w' Ad (.int .i64 Ah) (.int .i64 Ai) (.int .i64 Aj) (.int .i64 Ak) (.int .i64 Al) (.slice Ap Ag.length Aq) (.int .i64 Am) (.bool An)∧el8 w' (Bv.add ((Ab).toNat*8)) (.int .i64 ((rd_T61 l0 Ab).f0)) (.int .i64 ((rd_T61 l0 Ab).f1)) (.int .i64 ((rd_T61 l0 Ab).f2)) (.int .i64 ((rd_T61 l0 Ab).f3)) (.int .i64 ((rd_T61 l0 Ab).f4)) (.slice A497_5 ((rd_T61 l0 Ab).f5).length c497_5) (.int .i64 ((rd_T61 l0 Ab).f6)) (.bool ((rd_T61 l0 Ab).f7))) (ds:=[]) (bL 6 0) (by kernel_rfl) rfl rfl ⟨cz8_ Ae,⟨Bk,Bl,Bm,Bn,Bo,Bh,Bp,Bq⟩⟩ (fun hHeld=> ?_)
         generalize wr.drew=w24 at Af Ao Ac Ae HB HL497_5 As Bk Bl Bm Bn Bo Bh Bp Bq hHeld ⊢
         refine pR_ 1 ?_
         refine pR_ 2 ?_
         refine pR_ 3 ?_
         refine take_ (i:=0) (N:=some 38) (v:=?_) (a':=?_) (bL 6 15) rfl rfl (by kernel_rfl) (fun _ _ _ h=> h) (Or.inl ⟨by rfl,?_⟩) hHeld ?_ ?_;rotate_left;(rintro w' ⟨s0,s1⟩;go_simp;with_reducible rfl);rotate_left;(exact put_q)
         refine take_ (i:=4) (N:=some 42) (v:=?_) (a':=?_) (bL 6 31) rfl rfl (by kernel_rfl) (fun _ _ _ h=> h) (Or.inl ⟨by rfl,?_⟩) hHeld ?_ ?_;rotate_left;(rintro w' ⟨s0,s1⟩;go_simp;with_reducible rfl);rotate_left;(exact put_q)
         refine one_ (i:=5) (N:=some 43) (bL 6 63) rfl rfl (by kernel_rfl) (by decide) (fun K hK=> ?_)
         refine goes_ Try.func72 (by kernel_rfl) rfl #[.agg #[.int .i64 Ah,.int .i64 Ai,.int .i64 Aj,.int .i64 Ak,.int .i64 Al,.slice Ap Ag.length Aq,.int .i64 Am,.bool An],.agg #[.int .i64 ((rd_T61 l0 Ab).f0),.int .i64 ((rd_T61 l0 Ab).f1),.int .i64 ((rd_T61 l0 Ab).f2),.int .i64 ((rd_T61 l0 Ab).f3),.int .i64 ((rd_T61 l0 Ab).f4),.slice A497_5 ((rd_T61 l0 Ab).f5).length c497_5,.int .i64 ((rd_T61 l0 Ab).f6),.bool ((rd_T61 l0 Ab).f7)]] (by rfl) rfl rfl mp_q ?_
         with_reducible refine (spec_Before.calls Ah Ai Aj Ak Al _ _ Ag Am An ((rd_T61 l0 Ab).f0) ((rd_T61 l0 Ab).f1) ((rd_T61 l0 Ab).f2) ((rd_T61 l0 Ab).f3) ((rd_T61 l0 Ab).f4) _ _ ((rd_T61 l0 Ab).f5) ((rd_T61 l0 Ab).f6) ((rd_T61 l0 Ab).f7) Db _ ?_ ?_ ?_ ?_ A21.out).mono ?_
         (focus repeat (first | exact (Kd.V_reads' Ac.out).2.2 | (with_reducible refine Kd.C_alloc ?_ _) | (with_reducible refine Kd.C_drewN ?_ _) | (with_reducible refine Kd.C_drew ?_)))
         exact (Kd.V_reads' Ac.out).2.1
         (focus repeat (first | exact (by repeat (first | (with_reducible exact As.out) | (with_reducible refine Kd.C_alloc ?_ _) | (with_reducible refine Kd.C_drewN ?_ _) | (with_reducible refine Kd.C_drew ?_) | exact As.out)) | (with_reducible refine Kd.C_alloc ?_ _) | (with_reducible refine Kd.C_drewN ?_ _) | (with_reducible refine Kd.C_drew ?_)))
         exact Cu.out
         rintro e w25 ⟨rfl,hb⟩
         have HS8_:=(hb.cell (World.block_lt_of_cell? _ _ (hHeld.2.1))).trans (hHeld.2.1)
         have HS9_:=(hb.cell (World.block_lt_of_cell? _ _ (hHeld.2.2.1))).trans (hHeld.2.2.1)
         have HS10_:=(hb.cell (World.block_lt_of_cell? _ _ (hHeld.2.2.2.1))).trans (hHeld.2.2.2.1)
         have HS11_:=(hb.cell (World.block_lt_of_cell? _ _ (hHeld.2.2.2.2.1))).trans (hHeld.2.2.2.2.1)
         have HS12_:=(hb.cell (World.block_lt_of_cell? _ _ (hHeld.2.2.2.2.2.1))).trans (hHeld.2.2.2.2.2.1)
         have HS13_:=(hb.cell (World.block_lt_of_cell? _ _ (hHeld.2.2.2.2.2.2.1))).trans (hHeld.2.2.2.2.2.2.1)
         have HS14_:=(hb.cell (World.block_lt_of_cell? _ _ (hHeld.2.2.2.2.2.2.2.1))).trans (hHeld.2.2.2.2.2.2.2.1)
         have HS15_:=(hb.cell (World.block_lt_of_cell? _ _ (hHeld.2.2.2.2.2.2.2.2))).trans (hHeld.2.2.2.2.2.2.2.2)
         refine ⟨_,rfl,?_⟩
         replace Af:=ak (Kd.V_below (kV_q Af) hb);replace Ao:=ak (Kd.N_below (kN_q Ao) hb);replace Ac:=ak (Kd.V_below (kV_q Ac) hb);replace HL497_5:=ak (Kd.V_below (kV_q HL497_5) hb);replace Ae:=bb_ Ae hb
         replace As:=ak (Kd.C_below (by repeat (first | (with_reducible exact As.out) | (with_reducible refine Kd.C_alloc ?_ _) | (with_reducible refine Kd.C_drewN ?_ _) | (with_reducible refine Kd.C_drew ?_) | exact As.out)) hb)
         replace HB:=hB_ HB hb
         refine hK.out _ _ ⟨cz8_ Ae,⟨HS8_,HS9_,HS10_,HS11_,HS12_,HS13_,HS14_,HS15_⟩⟩ (fun hHeld=> ?_)
         clear hK K
         refine norm_ (a':=?_) ?_ ?_;rotate_left;(show Act.put _ (some 43) _=_;simp only [Act.put,List.setIfInBounds_toArray,List.set_cons_zero,List.set_cons_succ,i64_w,i32_w];rfl)
         have H:=HZ55.out;clear HZ55
         by_cases c22:Db=true
         ·subst c22;rw [if_pos rfl] at H
          by_cases c23:Av.length<1759218604441
          ·rw [if_pos c23] at H;have Dm:=ak c23;clear c23;obtain ⟨Dc,Az⟩:∃y_:List (S61),y_=(Av++[(⟨(rd_T61 l0 Ab).f0,(rd_T61 l0 Ab).f1,(rd_T61 l0 Ab).f2,(rd_T61 l0 Ab).f3,(rd_T61 l0 Ab).f4,(rd_T61 l0 Ab).f5,(rd_T61 l0 Ab).f6,(rd_T61 l0 Ab).f7⟩:S61)]):=⟨_,rfl⟩
           replace H:(spec_l05Put.l1 k2 l0 Dc (wrap64 (Ab+1)) Ah Ai Aj Ak Al Ag Am An)=some r:=by first | (rw [Az];with_reducible exact H) | (have H2_:=(Option.bind_some _ _).symm.trans H;rw [Az];with_reducible exact H2_) | (have H2_:=(Option.bind_some _ _).symm.trans H;with_reducible exact H2_) | with_reducible exact H | (rw [Az];exact H) | exact H
           have Dn:=ak Az;clear Az;have H':=ak H;clear H
           refine done_ (by kernel_rfl) ?_
           (try clear HS8_);(try clear HS9_);(try clear HS10_);(try clear HS11_);(try clear HS12_);(try clear HS13_);(try clear HS14_);(try clear HS15_);(try clear hHeld)
           have p499:0≤(Ab:Int):=of_decide_eq_true as_q
           have q499:Ab<(l0.length:Int):=of_decide_eq_true as_q
           obtain ⟨Do,A499_5,c499_5,e499,Dt,Du,Dv,Dw,Dx,Cv,Dy,Dz,hl499_5,hi499_5⟩:=at_T61 (Kd.V_reads' Af.out).2.2 Ab p499 q499
           obtain rfl:Bv=Do:=(by injection e499)
           obtain ⟨ce499,hce499,hMe499,hcc499⟩:=Kd.V_get Af.out z61 Ab p499 (by first | exact q499 | exact of_decide_eq_true as_q | (have e_:=(Kd.V_reads' Af.out).1;omega))
           obtain ⟨ua499_5,uc499_5,rfl,ul499_5,ge499_5⟩:=k61_openF hMe499;have hv499_5:=hcc499 5 _ rfl
           rw [add_field _ _ 5 (by omega)] at hv499_5
           replace hv499_5:=Option.some.inj (hv499_5.symm.trans Cv)
           injection hv499_5 with hva_ hvn_ hvc_
           rw [hva_] at ge499_5;rw [hvc_] at ul499_5
           have HL499_5:=ak (show Kd.V k127 127 _ w.heap.size _ _ ((rd_T61 l0 Ab).f5) from Kd.V_mk ul499_5 ge499_5)
           clear hva_ hvn_ hvc_ ge499_5 ul499_5;clear hcc499 hce499;have Ea:=ak hi499_5;have Eb:=ak hl499_5;clear hi499_5 hl499_5;replace p499:=eq_true p499;replace q499:=eq_true q499
           try go_wp2_with (first | ((with_reducible refine gate_builtin (b:=.append) (xs:=#[.tmp 44,.tmp 49]) rfl ?_);at_builtin;refine Kd.N_append k61 (w0:=w) w.heap.size rfl (.tmp 44) (.tmp 49) 41 61 (.agg #[(.int .i64 0),(.int .i64 0),(.int .i64 0),(.int .i64 0),(.int .i64 0),(.slice none 0 0),(.int .i64 0),(.bool false)]) 80 rfl Try.underlying41 info61 rfl (by decide) (by omega) u5 Av (⟨(rd_T61 l0 Ab).f0,(rd_T61 l0 Ab).f1,(rd_T61 l0 Ab).f2,(rd_T61 l0 Ab).f3,(rd_T61 l0 Ab).f4,(rd_T61 l0 Ab).f5,(rd_T61 l0 Ab).f6,(rd_T61 l0 Ab).f7⟩:S61) [.int .i64 ((rd_T61 l0 Ab).f0),.int .i64 ((rd_T61 l0 Ab).f1),.int .i64 ((rd_T61 l0 Ab).f2),.int .i64 ((rd_T61 l0 Ab).f3),.int .i64 ((rd_T61 l0 Ab).f4),.slice A499_5 ((rd_T61 l0 Ab).f5).length c499_5,.int .i64 ((rd_T61 l0 Ab).f6),.bool ((rd_T61 l0 Ab).f7)] (fun k_=> ((P0_ k_∨P1_5_ k_)∨w.heap.size≤k_)∧k_≠Ad) (fun k_=> ((fun k_=> ((P0_ k_∨P1_5_ k_)∨w.heap.size≤k_)∧k_≠Ad)) k_∧some k_≠(u5:Value).ownBlock) rfl rfl ?_ (fun _ hk=> hk) ?_ ?_ ?_ ?_ ?_ ?_;exact (k61_mkF _ _ (⟨(rd_T61 l0 Ab).f0,(rd_T61 l0 Ab).f1,(rd_T61 l0 Ab).f2,(rd_T61 l0 Ab).f3,(rd_T61 l0 Ab).f4,(rd_T61 l0 Ab).f5,(rd_T61 l0 Ab).f6,(rd_T61 l0 Ab).f7⟩:S61) (Kd.V_reads' (Kd.V_mono (ok':=(fun k_=> ((fun k_=> ((P0_ k_∨P1_5_ k_)∨w.heap.size≤k_)∧k_≠Ad)) k_∧some k_≠(u5:Value).ownBlock)) (HL499_5.out) (fun k_ hk=> ⟨⟨hk.1,hk.2.2⟩,hk.2.1⟩))).2.1 (Kd.V_F (Kd.V_mono (ok':=(fun k_=> ((fun k_=> ((P0_ k_∨P1_5_ k_)∨w.heap.size≤k_)∧k_≠Ad)) k_∧some k_≠(u5:Value).ownBlock)) (HL499_5.out) (fun k_ hk=> ⟨⟨hk.1,hk.2.2⟩,hk.2.1⟩))));exact (fun k_ hk=> ⟨(.inr (Nat.le_trans (below_size (bw_q HB)) hk)),Kd.freshB (g:=Ad) (o:=.cells #[.int .i64 Ah,.int .i64 Ai,.int .i64 Aj,.int .i64 Ak,.int .i64 Al,.slice Ap Ag.length Aq,.int .i64 Am,.bool An] 61 (0,0)) (bk_q Ae) k_ hk⟩);exact (kN_q Ao);exact (bw_q HB);exact (below_size (bw_q HB));(focus have:=Dm.out;omega);intro v501 w26 ho hb hg hat;rw [←Dn.out] at ho;replace Af:=ak (Kd.V_afterv (ok:=(fun k_=> ((P0_ k_∨P1_5_ k_)∨w.heap.size≤k_)∧k_≠Ad)) (by (with_reducible repeat (first | apply Kd.V_alloc | apply Kd.V_drewN | apply Kd.V_drew));exact Kd.V_mono Af.out (fun _ hk=> ⟨⟨hk.1,hk.2.2⟩,hk.2.1⟩)) hg hat);replace Ac:=ak (Kd.V_afterv (ok:=(fun k_=> ((P0_ k_∨P1_5_ k_)∨w.heap.size≤k_)∧k_≠Ad)) (by (with_reducible repeat (first | apply Kd.V_alloc | apply Kd.V_drewN | apply Kd.V_drew));exact Kd.V_mono Ac.out (fun _ hk=> ⟨⟨hk.1,hk.2.2⟩,hk.2.1⟩)) hg hat);replace Ae:=bG_ Ae hg (Kd.N_away Ao.out (fun _ hk=> hk.2));replace HL497_5:=ak (Kd.V_afterv (ok:=(fun k_=> ((P0_ k_∨P1_5_ k_)∨w.heap.size≤k_)∧k_≠Ad)) (by (with_reducible repeat (first | apply Kd.V_alloc | apply Kd.V_drewN | apply Kd.V_drew));exact Kd.V_mono HL497_5.out (fun _ hk=> ⟨⟨hk.1,hk.2.2⟩,hk.2.1⟩)) hg hat);replace HL499_5:=ak (Kd.V_afterv (ok:=(fun k_=> ((P0_ k_∨P1_5_ k_)∨w.heap.size≤k_)∧k_≠Ad)) (by (with_reducible repeat (first | apply Kd.V_alloc | apply Kd.V_drewN | apply Kd.V_drew));exact Kd.V_mono HL499_5.out (fun _ hk=> ⟨⟨hk.1,hk.2.2⟩,hk.2.1⟩)) hg hat);replace HB:=ak (hb);have Dp:=ak (ho);clear Ao;clear ho hb hg hat))
           go_roundg k2
           case measure=> have:=Bi.out;have:=Bu.out;omega
           case rel=> exact ⟨(Dc),(wrap64 (Ab+1)),rs_q,H',⟨by have:=Bi.out;have:=Bu.out;omega⟩,⟨by (with_reducible repeat (first | apply Kd.V_alloc | apply Kd.V_drewN | apply Kd.V_drew));exact Kd.V_mono Af.out (fun _ hk=> ⟨hk.1.1,⟨hk.2,hk.1.2⟩⟩)⟩,⟨by (with_reducible repeat (first | apply Kd.N_alloc | apply Kd.N_drewN | apply Kd.N_drew));exact Dp.out⟩,⟨by (with_reducible repeat (first | apply Kd.V_alloc | apply Kd.V_drewN | apply Kd.V_drew));exact Kd.V_mono Ac.out (fun _ hk=> ⟨hk.1.1,⟨hk.2,hk.1.2⟩⟩)⟩,⟨bk_q Ae⟩,⟨bw_q HB⟩⟩
          ·rw [if_neg c23] at H
           exact absurd H (by simp)
         ·replace c22:=Bool.eq_false_iff.mpr c22;subst c22
          rw [if_neg (show ¬(false=true) by decide)] at H
          have H':=ak H;clear H
          refine done_ (by kernel_rfl) ?_
          (try clear HS8_);(try clear HS9_);(try clear HS10_);(try clear HS11_);(try clear HS12_);(try clear HS13_);(try clear HS14_);(try clear HS15_);(try clear hHeld)
          try go_wp2
          go_roundg k2
          case measure=> have:=Bi.out;have:=Bu.out;omega
          case rel=> exact ⟨(Av),(wrap64 (Ab+1)),rs_q,H',⟨by have:=Bi.out;have:=Bu.out;omega⟩,⟨by (with_reducible repeat (first | apply Kd.V_alloc | apply Kd.V_drewN | apply Kd.V_drew));exact Af.out⟩,⟨by (with_reducible repeat (first | apply Kd.N_alloc | apply Kd.N_drewN | apply Kd.N_drew));exact Ao.out⟩,⟨by (with_reducible repeat (first | apply Kd.V_alloc | apply Kd.V_drewN | apply Kd.V_drew));exact Ac.out⟩,⟨bk_q Ae⟩,⟨bw_q HB⟩⟩
        ·rw [if_neg c20] at H
         exact absurd H (by simp)
       ·rw [if_neg c19] at H;have Dl:=decide_eq_false c19
        clear c19;obtain rfl:=Option.some.inj H
        go_wp2
        go_ret
        exact ⟨_,er_q,by (with_reducible repeat (first | apply Kd.N_alloc | apply Kd.N_drewN | apply Kd.N_drew));exact Kd.N_mono Ao.out (fun _ hk=> hk.1),bw_q HB⟩
    ·rw [if_neg c16] at H
     exact absurd H (by simp)

end Go.Proofs.Ythjmdiggglkeaaa.Q
