import Derived.Test.YthjmdiggglkeaaaXLearnQlawsszRecordS
import Derived.Test.YthjmdiggglkeaaaXLearnQspecl04CopyList
import Derived.Test.YthjmdiggglkeaaaXLearnQspecl05Put
/- The contract of a Go function. -/




namespace Go.Proofs.Ythjmdiggglkeaaa.Q
open Go.RowKit Go.Proofs.YthjmdiggglkeaaaW.PrintWords Go.Proofs.YthjmdiggglkeaaaW.PrintLast Go.Proofs.YthjmdiggglkeaaaW.PrintMore
attribute [local go_sem] max2_int min2_int max_two min_two max_three min_three max_four min_four   -- for this text's walks alone
set_option linter.unusedVariables false
set_option linter.unusedSimpArgs false

/-! ### spec_l05Install: function 93 -/
def spec_l05Install.f (k:Nat) (l0:List (S61)) (b:Int) (c:Int) (d:Int) (e:Int) (a:Int) (g:List (S127)) (h:Int) (i:Bool):Option ((List (S61))×Bool):=(spec_l05At.f k l0 b c d e a g h i).bind fun j=> ((spec_RecordOk.f k b c d e a g h i).bind fun l=> (if l=true then (if j≥0 then (if 0≤j then (if j<(l0.length:Int) then (if ((rd_T61 l0 j).f4)≥a then (some (l0,false)) else (if j<0 then (if (l0.length:Int)≥150 then (some (l0,false)) else ((spec_l05Put.f k l0 b c d e a g h i).bind fun m=> (some (m,true)))) else ((spec_l05Put.f k l0 b c d e a g h i).bind fun n=> (some (n,true))))) else (none)) else (none)) else (if j<0 then (if (l0.length:Int)≥150 then (some (l0,false)) else ((spec_l05Put.f k l0 b c d e a g h i).bind fun o=> (some (o,true)))) else ((spec_l05Put.f k l0 b c d e a g h i).bind fun p=> (some (p,true))))) else (some (l0,false))))
theorem spec_l05Install.mono:∀a0 a1 a2 a3 a4 a5 a6 a7 a8 k,LeO (spec_l05Install.f k a0 a1 a2 a3 a4 a5 a6 a7 a8) (spec_l05Install.f (k+1) a0 a1 a2 a3 a4 a5 a6 a7 a8):=by
 intro a0 a1 a2 a3 a4 a5 a6 a7 a8 k
 unfold spec_l05Install.f
 with_reducible repeat' (first | apply spec_RecordOk.mono | apply spec_l05At.mono | apply spec_l05Put.mono | exact LeO.refl _ | exact LeO.none _ | refine LeO.ite ?_ ?_ | refine LeO.bind ?_ (fun _=> ?_))
def spec_l05Install.T2:Bool×List (List Nat×List Nat):=(true,[([],[]),([0],[0]),([1],[1]),([2,1],[2]),([3],[3]),([4,3],[3,4]),([5,3,3],[3,5]),([6],[6]),([6],[6]),([7,8,6],[6,7,8]),([9,6],[6,9]),([10,6],[6,10]),([6],[6]),([12,6],[6,12]),([11,13,6],[6,11,13]),([6,14,3],[3,6,14]),([3,15],[3,15]),([16,6],[16]),([17],[17]),([18,17],[17,18]),([19,17,17],[17,19]),([20],[20]),([21,20],[20,21]),([22,20],[20,22]),([20,23,17],[17,20,23]),([17,24],[17,24])])
def spec_l05Install.B2:List Nat:=[0,1,3,7,15,31,63,127,127,511,1023,2047,127,4223,16383,32767,65535,131071,262143,524287,1048575,2097151,4194303,8388607,16777215,33554431]
theorem spec_l05Install.tab2:rtab .any (opsOf Try.f93 2)=spec_l05Install.T2:=by kernel_rfl
theorem spec_l05Install.bits2:waitsOk spec_l05Install.T2.2 spec_l05Install.B2=true:=by kernel_rfl
set_option maxHeartbeats 8000000 in
set_option maxRecDepth 100000 in
theorem spec_l05Install.calls (k:Nat) (P0_:Nat→Prop) (A0:Option Addr) (c0:Nat) (l0:List (S61)) (Af:Int) (Ag:Int) (Ah:Int) (Ai:Int) (Ae:Int) (P1_5_:Nat→Prop) (Al:Option Addr) (Am:Nat) (Ac:List (S127)) (Aj:Int) (Ak:Bool) (r1:List (S61)) (r2:Bool) (w:World) (hs0:Kd.V k61 61 w w.heap.size (fun k_=> P0_ k_) (.slice A0 l0.length c0) l0) (hs1_5:Kd.V k127 127 w w.heap.size (fun k_=> P1_5_ k_) (.slice Al Ac.length Am) Ac) (h:spec_l05Install.f k l0 Af Ag Ah Ai Ae Ac Aj Ak=some (r1,r2)):
  Calls Try.prog 93 #[.slice A0 l0.length c0,.agg #[.int .i64 Af,.int .i64 Ag,.int .i64 Ah,.int .i64 Ai,.int .i64 Ae,.slice Al Ac.length Am,.int .i64 Aj,.bool Ak]] w fun e w'=> ∃v0_:Value,e=.returned (.tuple #[v0_,.bool r2])∧Kd.V k61 61 w' w.heap.size (fun k_=> ((P0_ k_∨P1_5_ k_)∨w.heap.size≤k_)) v0_ r1∧Below w.heap.size w w':=by
 have hu61:=Try.underlying61
 have Ab:=ak (show Kd.V k61 61 w w.heap.size (fun k_=> ((P0_ k_∨P1_5_ k_)∨w.heap.size≤k_)) (.slice A0 l0.length c0) l0 from Kd.V_mono hs0 (fun k_ hk=> .inl (.inl hk)))
 have HO1_5:=ak (show Kd.V k127 127 w w.heap.size (fun k_=> ((P0_ k_∨P1_5_ k_)∨w.heap.size≤k_)) (.slice Al Ac.length Am) Ac from Kd.V_mono hs1_5 (fun k_ hk=> .inl (.inr hk)))
 have HB:=ak (Below.refl w.heap.size w);have H:=h
 clear h;unfold spec_l05Install.f at H;replace H:=bsi H;obtain ⟨An,A30,H⟩:=H
 (try dsimp only at H)
 have A3:=ak A30;clear A30;replace H:=bsi H;obtain ⟨Bk,A40,H⟩:=H
 (try dsimp only at H)
 have A4:=ak A40;clear A40
 by_cases c5:Bk=true
 ·subst c5;rw [if_pos rfl] at H
  by_cases c6:An≥0
  ·rw [if_pos c6] at H;have Bl:=decide_eq_true c6;clear c6
   by_cases c7:0≤An
   ·rw [if_pos c7] at H;have Fz:=decide_eq_true c7;clear c7
    by_cases c8:An<(l0.length:Int)
    ·rw [if_pos c8] at H;have Ga:=decide_eq_true c8
     clear c8;have HZ49:=ak H;clear H
     go_enter Try.func93,Try.ntmps93
     try go_wp2_with (first | ((with_reducible refine gate_dst (N:=3) rfl ?_);(try (refine gate_guard (by rfl) ?_;dsimp only));refine box_q 3 #[.int .i64 Af,.int .i64 Ag,.int .i64 Ah,.int .i64 Ai,.int .i64 Ae,.slice Al Ac.length Am,.int .i64 Aj,.bool Ak] 61 ?_;intro Ad hg w10 hbox hb;replace Ab:=ak (Kd.V_below (Kd.V_elderB (kV_q Ab) Ad (Nat.le_of_eq hg.symm)) hb);replace HO1_5:=ak (Kd.V_below (Kd.V_elderB (kV_q HO1_5) Ad (Nat.le_of_eq hg.symm)) hb);have Aa:=ak (hbox);have Bf:=gs_ HB hg;replace HB:=hB_ HB hb;clear hb hbox hg;obtain ⟨Bq,Br,Bs,Bt,Bu,Bv,Bw,Bx,By,Bz,Ca,Cb,Cc,Cd,Ce,Cf⟩:=cf8_ Aa) | ((with_reducible refine gC_ 105 ?_);refine gL_ 9 Try.func105 #[.slice A0 l0.length c0,.agg #[.int .i64 Af,.int .i64 Ag,.int .i64 Ah,.int .i64 Ai,.int .i64 Ae,.slice Al Ac.length Am,.int .i64 Aj,.bool Ak]] ?_;(with_reducible refine (spec_l05At.calls k _ _ l0 Af Ag Ah Ai Ae _ _ Ac Aj Ak An _ ?_ ?_ ?_ ?_ A3.out).mono ?_);(focus repeat (first | exact (Kd.V_reads' Ab.out).2.2 | (with_reducible refine Kd.C_alloc ?_ _) | (with_reducible refine Kd.C_drewN ?_ _) | (with_reducible refine Kd.C_drew ?_)));exact (Kd.V_reads' Ab.out).2.1;(focus repeat (first | exact (Kd.V_reads' HO1_5.out).2.2 | (with_reducible refine Kd.C_alloc ?_ _) | (with_reducible refine Kd.C_drewN ?_ _) | (with_reducible refine Kd.C_drew ?_)));exact (Kd.V_reads' HO1_5.out).2.1;rintro e w12 ⟨rfl,hb⟩;refine ⟨_,rfl,?_⟩;replace Ab:=ak (Kd.V_below (kV_q Ab) hb);replace HO1_5:=ak (Kd.V_below (kV_q HO1_5) hb);replace Aa:=bb_ Aa hb;replace HB:=hB_ HB hb))
     replace Ab:=ak (Kd.V_drew Ab.out);replace HO1_5:=ak (Kd.V_drew HO1_5.out);replace Aa:=ak (blk_drew Aa.out);replace HB:=ak (below_drew1 HB.out)
     have p506:0≤(An:Int):=of_decide_eq_true as_q
     have q506:An<(l0.length:Int):=of_decide_eq_true as_q
     obtain ⟨Be,A506_5,c506_5,e506,Ax,Ay,Az,Ba,Bb,Av,Bc,Bd,hl506_5,hi506_5⟩:=at_T61 (Kd.V_reads' Ab.out).2.2 An p506 q506
     cases e506
     obtain ⟨ce506,hce506,hMe506,hcc506⟩:=Kd.V_get Ab.out z61 An p506 (by first | exact q506 | exact of_decide_eq_true as_q | (have e_:=(Kd.V_reads' Ab.out).1;omega))
     obtain ⟨ua506_5,uc506_5,rfl,ul506_5,ge506_5⟩:=k61_openF hMe506;have hv506_5:=hcc506 5 _ rfl
     rw [add_field _ _ 5 (by omega)] at hv506_5
     replace hv506_5:=Option.some.inj (hv506_5.symm.trans Av)
     injection hv506_5 with hva_ hvn_ hvc_
     rw [hva_] at ge506_5;rw [hvc_] at ul506_5
     have HL506_5:=ak (show Kd.V k127 127 _ w.heap.size _ _ ((rd_T61 l0 An).f5) from Kd.V_mk ul506_5 ge506_5)
     clear hva_ hvn_ hvc_ ge506_5 ul506_5;clear hcc506 hce506;have Ao:=ak hi506_5;have Cg:=ak hl506_5;clear hi506_5 hl506_5;replace p506:=eq_true p506;replace q506:=eq_true q506
     refine start_ (n:=26) (S:=fun w'=> cl8 w' Ad (.int .i64 Af) (.int .i64 Ag) (.int .i64 Ah) (.int .i64 Ai) (.int .i64 Ae) (.slice Al Ac.length Am) (.int .i64 Aj) (.bool Ak)∧el8 w' (Be.add ((An).toNat*8)) (.int .i64 ((rd_T61 l0 An).f0)) (.int .i64 ((rd_T61 l0 An).f1)) (.int .i64 ((rd_T61 l0 An).f2)) (.int .i64 ((rd_T61 l0 An).f3)) (.int .i64 ((rd_T61 l0 An).f4)) (.slice A506_5 ((rd_T61 l0 An).f5).length c506_5) (.int .i64 ((rd_T61 l0 An).f6)) (.bool ((rd_T61 l0 An).f7))) (ds:=[]) (bL 26 0) (by kernel_rfl) rfl rfl ⟨cz8_ Aa,⟨Ax,Ay,Az,Ba,Bb,Av,Bc,Bd⟩⟩ (fun hHeld=> ?_);refine with_tabW spec_l05Install.tab2 spec_l05Install.bits2 (fun HT_ HW_=> ?_)
     generalize w12.drew=w13 at Ab HO1_5 Aa HB HL506_5 Ao Ax Ay Az Ba Bb Av Bc Bd hHeld ⊢
     refine take_ (i:=0) (N:=some 10) (v:=?_) (a':=?_) (bL 26 1) rfl rfl (take_ofW HT_.out HW_.out (by kernel_rfl)) (fun _ _ _ h=> h) (Or.inl ⟨by rfl,?_⟩) hHeld ?_ ?_;rotate_left;(rintro w' ⟨s0,s1⟩;go_simp;with_reducible rfl);rotate_left;(exact put_q)
     refine one_ (i:=1) (N:=some 11) (bL 26 3) rfl rfl (one_of HT_.out (by kernel_rfl)) (by decide) (fun K hK=> ?_)
     refine goes_ Try.func131 (by kernel_rfl) rfl #[.agg #[.int .i64 Af,.int .i64 Ag,.int .i64 Ah,.int .i64 Ai,.int .i64 Ae,.slice Al Ac.length Am,.int .i64 Aj,.bool Ak]] (by rfl) rfl rfl mp_q ?_
     with_reducible refine (spec_RecordOk.calls k Af Ag Ah Ai Ae _ _ Ac Aj Ak true _ ?_ ?_ A4.out).mono ?_
     (focus repeat (first | exact (Kd.V_reads' HO1_5.out).2.2 | (with_reducible refine Kd.C_alloc ?_ _) | (with_reducible refine Kd.C_drewN ?_ _) | (with_reducible refine Kd.C_drew ?_)))
     exact (Kd.V_reads' HO1_5.out).2.1
     rintro e w14 ⟨rfl,hb⟩
     have HS8_:=(hb.cell (World.block_lt_of_cell? _ _ (hHeld.2.1))).trans (hHeld.2.1)
     have HS9_:=(hb.cell (World.block_lt_of_cell? _ _ (hHeld.2.2.1))).trans (hHeld.2.2.1)
     have HS10_:=(hb.cell (World.block_lt_of_cell? _ _ (hHeld.2.2.2.1))).trans (hHeld.2.2.2.1)
     have HS11_:=(hb.cell (World.block_lt_of_cell? _ _ (hHeld.2.2.2.2.1))).trans (hHeld.2.2.2.2.1)
     have HS12_:=(hb.cell (World.block_lt_of_cell? _ _ (hHeld.2.2.2.2.2.1))).trans (hHeld.2.2.2.2.2.1)
     have HS13_:=(hb.cell (World.block_lt_of_cell? _ _ (hHeld.2.2.2.2.2.2.1))).trans (hHeld.2.2.2.2.2.2.1)
     have HS14_:=(hb.cell (World.block_lt_of_cell? _ _ (hHeld.2.2.2.2.2.2.2.1))).trans (hHeld.2.2.2.2.2.2.2.1)
     have HS15_:=(hb.cell (World.block_lt_of_cell? _ _ (hHeld.2.2.2.2.2.2.2.2))).trans (hHeld.2.2.2.2.2.2.2.2)
     refine ⟨_,rfl,?_⟩
     replace Ab:=ak (Kd.V_below (kV_q Ab) hb);replace HO1_5:=ak (Kd.V_below (kV_q HO1_5) hb);replace Aa:=bb_ Aa hb;replace HB:=hB_ HB hb
     refine hK.out _ _ ⟨cz8_ Aa,⟨HS8_,HS9_,HS10_,HS11_,HS12_,HS13_,HS14_,HS15_⟩⟩ (fun hHeld=> ?_)
     clear hK K
     refine norm_ (a':=?_) ?_ ?_;rotate_left;(show Act.put _ (some 11) _=_;simp only [Act.put,List.setIfInBounds_toArray,List.set_cons_zero,List.set_cons_succ,i64_w,i32_w];rfl)
     refine pQ_ 2 HT_ ?_
     refine pQ_ 3 HT_ ?_
     refine pQ_ 4 HT_ ?_
     refine pQ_ 5 HT_ ?_
     refine pQ_ 6 HT_ ?_
     refine pQ_ 7 HT_ ?_
     refine pQ_ 8 HT_ ?_
     refine pQ_ 9 HT_ ?_
     refine pQ_ 10 HT_ ?_
     refine pQ_ 12 HT_ ?_
     refine take_ (i:=11) (N:=some 21) (v:=?_) (a':=?_) (bL 26 8191) rfl rfl (take_ofW HT_.out HW_.out (by kernel_rfl)) (fun _ _ _ h=> h) (Or.inl ⟨by rfl,?_⟩) hHeld ?_ ?_;rotate_left;(rintro w' ⟨s0,s1⟩;go_simp;with_reducible rfl);rotate_left;(exact put_q)
     refine take_ (i:=13) (N:=some 23) (v:=?_) (a':=?_) (bL 26 16383) rfl rfl (take_ofW HT_.out HW_.out (by kernel_rfl)) (fun _ _ _ h=> h) (Or.inl ⟨by rfl,?_⟩) hHeld ?_ ?_;rotate_left;(rintro w' ⟨s0,s1⟩;go_simp;with_reducible rfl);rotate_left;(exact put_q)
     refine pQ_ 14 HT_ ?_
     refine pQ_ 15 HT_ ?_
     refine pQ_ 16 HT_ ?_
     refine pQ_ 17 HT_ ?_
     have H:=HZ49.out;clear HZ49
     by_cases c9:((rd_T61 l0 An).f4)≥Ae
     ·rw [if_pos c9] at H;have Aw:=decide_eq_true c9
      (first | rw [Aw] | (simp only [i64_w,i32_w];first | rw [Aw]) | skip)
      clear c9
      simp only [Option.some.injEq,Prod.mk.injEq] at H
      obtain ⟨rfl,rfl⟩:=H
      refine pU_ 18 HT_ ?_
      refine pU_ 19 HT_ ?_
      refine pU_ 20 HT_ ?_
      refine pU_ 21 HT_ ?_
      refine pU_ 22 HT_ ?_
      refine pU_ 23 HT_ ?_
      refine pU_ 24 HT_ ?_
      refine pQ_ 25 HT_ ?_
      refine done_ (done_of HT_.out (by kernel_rfl)) ?_
      try go_wp2
      go_ret2
      exact ⟨_,er_q,by (with_reducible repeat (first | apply Kd.V_alloc | apply Kd.V_drewN | apply Kd.V_drew));exact Kd.V_mono Ab.out (fun _ hk=> hk.1),bw_q HB⟩
     ·rw [if_neg c9] at H;have Aw:=decide_eq_false c9
      (first | rw [Aw] | (simp only [i64_w,i32_w];first | rw [Aw]) | skip)
      clear c9;have HZ50:=ak H;clear H
      refine pQ_ 18 HT_ ?_
      refine pQ_ 19 HT_ ?_
      refine pQ_ 20 HT_ ?_
      have H:=HZ50.out;clear HZ50
      by_cases c15:An<0
      ·rw [if_pos c15] at H;have Ap:=decide_eq_true c15
       (first | rw [Ap] | (simp only [i64_w,i32_w];first | rw [Ap]) | skip)
       clear c15;have HZ51:=ak H;clear H
       refine pQ_ 21 HT_ ?_
       refine pQ_ 22 HT_ ?_
       refine pQ_ 23 HT_ ?_
       refine pQ_ 24 HT_ ?_
       refine pQ_ 25 HT_ ?_
       have H:=HZ51.out;clear HZ51
       by_cases c16:(l0.length:Int)≥150
       ·rw [if_pos c16] at H;have Aq:=decide_eq_true c16
        have Ar:decide (150≤l0.length)=true:=decide_eq_true (by omega)
        (first | rw [Aq] | rw [Ar] | (simp only [i64_w,i32_w];first | rw [Aq] | rw [Ar]) | skip)
        clear c16
        simp only [Option.some.injEq,Prod.mk.injEq] at H
        obtain ⟨rfl,rfl⟩:=H
        refine done_ (done_of HT_.out (by kernel_rfl)) ?_
        try go_wp2
        go_ret2
        exact ⟨_,er_q,by (with_reducible repeat (first | apply Kd.V_alloc | apply Kd.V_drewN | apply Kd.V_drew));exact Kd.V_mono Ab.out (fun _ hk=> hk.1),bw_q HB⟩
       ·rw [if_neg c16] at H;have Aq:=decide_eq_false c16
        have Ar:decide (150≤l0.length)=false:=decide_eq_false (by omega)
        (first | rw [Aq] | rw [Ar] | (simp only [i64_w,i32_w];first | rw [Aq] | rw [Ar]) | skip)
        clear c16;replace H:=bsi H;obtain ⟨Bm,A220,H⟩:=H
        (try dsimp only at H)
        have A22:=ak A220;clear A220
        simp only [Option.some.injEq,Prod.mk.injEq] at H
        obtain ⟨rfl,rfl⟩:=H
        refine done_ (done_of HT_.out (by kernel_rfl)) ?_
        obtain ⟨Ch,Ci,Cj,Ck,Cl,Cm,Cn,Co,Cp,Cq,Cr,Cs,Ct,Cu,Cv,Cw⟩:=cf8_ Aa
        try go_wp2_with (first | ((with_reducible refine gC_ 132 ?_);refine gL_ 39 Try.func132 #[.slice (some Be) l0.length c0,.agg #[.int .i64 Af,.int .i64 Ag,.int .i64 Ah,.int .i64 Ai,.int .i64 Ae,.slice Al Ac.length Am,.int .i64 Aj,.bool Ak]] ?_;(with_reducible refine (spec_l05Put.calls k (fun k_=> (((P0_ k_∨P1_5_ k_)∨w.heap.size≤k_)∧k_≠Ad)) _ _ l0 Af Ag Ah Ai Ae (fun k_=> (((P0_ k_∨P1_5_ k_)∨w.heap.size≤k_)∧k_≠Ad)) _ _ Ac Aj Ak Bm _ ?_ ?_ A22.out).mono ?_);exact Ab.out;exact HO1_5.out;rintro e w29 ⟨v508,rfl,ho0,hb⟩;refine ⟨_,rfl,?_⟩;have n0_:=ak (Kd.V_elder' (kV_q Ab) (Kd.N_base ho0) hb);have n1_:=ak (Kd.V_elder' (kV_q HO1_5) (Kd.N_base ho0) hb);(first | have n2_:=ak (Kd.V_elder' (kV_q HL506_5) (Kd.N_base ho0) hb) | have n2_:=trivial);have n3_:=ak (Kd.N_lower (Kd.N_mono (ok':=fun k_=> ((P0_ k_∨P1_5_ k_)∨w.heap.size≤k_)∧k_≠Ad) ho0 (fun k_ hk_=> ⟨Or.elim hk_ (fun hs_=> Or.elim hs_ (fun hs_=> hs_.1) (fun hs_=> hs_.1)) (fun hn_=> (.inr (Nat.le_trans (below_size (bw_q HB)) hn_))),Or.elim hk_ (fun hs_=> Or.elim hs_ (fun hs_=> hs_.2) (fun hs_=> hs_.2)) (fun hn_=> (Kd.freshB (g:=Ad) (o:=.cells #[.int .i64 Af,.int .i64 Ag,.int .i64 Ah,.int .i64 Ai,.int .i64 Ae,.slice Al Ac.length Am,.int .i64 Aj,.bool Ak] 61 (0,0)) (bk_q Aa) k_ hn_))⟩)) (below_size (bw_q HB)));have n4_:=bb_ Aa hb;(first | have n5_:=ak (Kd.C_below (by repeat (first | (with_reducible exact Ao.out) | (with_reducible refine Kd.C_alloc ?_ _) | (with_reducible refine Kd.C_drewN ?_ _) | (with_reducible refine Kd.C_drew ?_) | exact Ao.out)) hb) | have n5_:=trivial);have n6_:=hB_ HB hb;clear Ab;clear HO1_5;clear HL506_5;clear Aa;clear Ao;clear HB;have Ab:=n0_;have HO1_5:=n1_;have HL506_5:=n2_;have Bg:=n3_;have Aa:=n4_;have Ao:=n5_;have HB:=n6_;clear n0_ n1_ n2_ n3_ n4_ n5_ n6_;(try clear ho0)))
        go_ret2
        exact ⟨_,er_q,Kd.N_V (by (with_reducible repeat (first | apply Kd.N_alloc | apply Kd.N_drewN | apply Kd.N_drew));exact Kd.N_mono Bg.out (fun _ hk=> hk.1)),bw_q HB⟩
      ·rw [if_neg c15] at H;have Ap:=decide_eq_false c15
       (first | rw [Ap] | (simp only [i64_w,i32_w];first | rw [Ap]) | skip)
       clear c15;replace H:=bsi H;obtain ⟨Bn,A300,H⟩:=H
       (try dsimp only at H)
       have A30:=ak A300;clear A300
       simp only [Option.some.injEq,Prod.mk.injEq] at H
       obtain ⟨rfl,rfl⟩:=H
       refine pU_ 21 HT_ ?_
       refine pU_ 22 HT_ ?_
       refine pU_ 23 HT_ ?_
       refine pQ_ 24 HT_ ?_
       refine pQ_ 25 HT_ ?_
       refine done_ (done_of HT_.out (by kernel_rfl)) ?_
       obtain ⟨Cx,Cy,Cz,Da,Db,Dc,Dd,De,Df,Dg,Dh,Di,Dj,Dk,Dl,Dm⟩:=cf8_ Aa
       try go_wp2_with (first | ((with_reducible refine gC_ 132 ?_);refine gL_ 39 Try.func132 #[.slice (some Be) l0.length c0,.agg #[.int .i64 Af,.int .i64 Ag,.int .i64 Ah,.int .i64 Ai,.int .i64 Ae,.slice Al Ac.length Am,.int .i64 Aj,.bool Ak]] ?_;(with_reducible refine (spec_l05Put.calls k (fun k_=> (((P0_ k_∨P1_5_ k_)∨w.heap.size≤k_)∧k_≠Ad)) _ _ l0 Af Ag Ah Ai Ae (fun k_=> (((P0_ k_∨P1_5_ k_)∨w.heap.size≤k_)∧k_≠Ad)) _ _ Ac Aj Ak Bn _ ?_ ?_ A30.out).mono ?_);exact Ab.out;exact HO1_5.out;rintro e w37 ⟨v511,rfl,ho0,hb⟩;refine ⟨_,rfl,?_⟩;have n0_:=ak (Kd.V_elder' (kV_q Ab) (Kd.N_base ho0) hb);have n1_:=ak (Kd.V_elder' (kV_q HO1_5) (Kd.N_base ho0) hb);(first | have n2_:=ak (Kd.V_elder' (kV_q HL506_5) (Kd.N_base ho0) hb) | have n2_:=trivial);have n3_:=ak (Kd.N_lower (Kd.N_mono (ok':=fun k_=> ((P0_ k_∨P1_5_ k_)∨w.heap.size≤k_)∧k_≠Ad) ho0 (fun k_ hk_=> ⟨Or.elim hk_ (fun hs_=> Or.elim hs_ (fun hs_=> hs_.1) (fun hs_=> hs_.1)) (fun hn_=> (.inr (Nat.le_trans (below_size (bw_q HB)) hn_))),Or.elim hk_ (fun hs_=> Or.elim hs_ (fun hs_=> hs_.2) (fun hs_=> hs_.2)) (fun hn_=> (Kd.freshB (g:=Ad) (o:=.cells #[.int .i64 Af,.int .i64 Ag,.int .i64 Ah,.int .i64 Ai,.int .i64 Ae,.slice Al Ac.length Am,.int .i64 Aj,.bool Ak] 61 (0,0)) (bk_q Aa) k_ hn_))⟩)) (below_size (bw_q HB)));have n4_:=bb_ Aa hb;(first | have n5_:=ak (Kd.C_below (by repeat (first | (with_reducible exact Ao.out) | (with_reducible refine Kd.C_alloc ?_ _) | (with_reducible refine Kd.C_drewN ?_ _) | (with_reducible refine Kd.C_drew ?_) | exact Ao.out)) hb) | have n5_:=trivial);have n6_:=hB_ HB hb;clear Ab;clear HO1_5;clear HL506_5;clear Aa;clear Ao;clear HB;have Ab:=n0_;have HO1_5:=n1_;have HL506_5:=n2_;have Bh:=n3_;have Aa:=n4_;have Ao:=n5_;have HB:=n6_;clear n0_ n1_ n2_ n3_ n4_ n5_ n6_;(try clear ho0)))
       go_ret2
       exact ⟨_,er_q,Kd.N_V (by (with_reducible repeat (first | apply Kd.N_alloc | apply Kd.N_drewN | apply Kd.N_drew));exact Kd.N_mono Bh.out (fun _ hk=> hk.1)),bw_q HB⟩
    ·rw [if_neg c8] at H
     exact absurd H (by simp)
   ·rw [if_neg c7] at H
    exact absurd H (by simp)
  ·rw [if_neg c6] at H;have Bl:=decide_eq_false c6
   clear c6;have HZ52:=ak H;clear H
   go_enter Try.func93,Try.ntmps93
   try go_wp2_with (first | ((with_reducible refine gate_dst (N:=3) rfl ?_);(try (refine gate_guard (by rfl) ?_;dsimp only));refine box_q 3 #[.int .i64 Af,.int .i64 Ag,.int .i64 Ah,.int .i64 Ai,.int .i64 Ae,.slice Al Ac.length Am,.int .i64 Aj,.bool Ak] 61 ?_;intro Ad hg w40 hbox hb;replace Ab:=ak (Kd.V_below (Kd.V_elderB (kV_q Ab) Ad (Nat.le_of_eq hg.symm)) hb);replace HO1_5:=ak (Kd.V_below (Kd.V_elderB (kV_q HO1_5) Ad (Nat.le_of_eq hg.symm)) hb);have Aa:=ak (hbox);have Bf:=gs_ HB hg;replace HB:=hB_ HB hb;clear hb hbox hg;obtain ⟨Dn,Do,Dp,Dq,Dr,Ds,Dt,Du,Dv,Dw,Dx,Dy,Dz,Ea,Eb,Ec⟩:=cf8_ Aa) | ((with_reducible refine gC_ 105 ?_);refine gL_ 9 Try.func105 #[.slice A0 l0.length c0,.agg #[.int .i64 Af,.int .i64 Ag,.int .i64 Ah,.int .i64 Ai,.int .i64 Ae,.slice Al Ac.length Am,.int .i64 Aj,.bool Ak]] ?_;(with_reducible refine (spec_l05At.calls k _ _ l0 Af Ag Ah Ai Ae _ _ Ac Aj Ak An _ ?_ ?_ ?_ ?_ A3.out).mono ?_);(focus repeat (first | exact (Kd.V_reads' Ab.out).2.2 | (with_reducible refine Kd.C_alloc ?_ _) | (with_reducible refine Kd.C_drewN ?_ _) | (with_reducible refine Kd.C_drew ?_)));exact (Kd.V_reads' Ab.out).2.1;(focus repeat (first | exact (Kd.V_reads' HO1_5.out).2.2 | (with_reducible refine Kd.C_alloc ?_ _) | (with_reducible refine Kd.C_drewN ?_ _) | (with_reducible refine Kd.C_drew ?_)));exact (Kd.V_reads' HO1_5.out).2.1;rintro e w42 ⟨rfl,hb⟩;refine ⟨_,rfl,?_⟩;replace Ab:=ak (Kd.V_below (kV_q Ab) hb);replace HO1_5:=ak (Kd.V_below (kV_q HO1_5) hb);replace Aa:=bb_ Aa hb;replace HB:=hB_ HB hb))
   replace Ab:=ak (Kd.V_drew Ab.out);replace HO1_5:=ak (Kd.V_drew HO1_5.out);replace Aa:=ak (blk_drew Aa.out);replace HB:=ak (below_drew1 HB.out)
   refine start_ (n:=26) (S:=fun w'=> cl8 w' Ad (.int .i64 Af) (.int .i64 Ag) (.int .i64 Ah) (.int .i64 Ai) (.int .i64 Ae) (.slice Al Ac.length Am) (.int .i64 Aj) (.bool Ak)) (ds:=[]) (bL 26 0) (by kernel_rfl) rfl rfl (cz8_ Aa) (fun hHeld=> ?_);refine with_tabW spec_l05Install.tab2 spec_l05Install.bits2 (fun HT_ HW_=> ?_)
   generalize w42.drew=w43 at Ab HO1_5 Aa HB hHeld ⊢
   refine take_ (i:=0) (N:=some 10) (v:=?_) (a':=?_) (bL 26 1) rfl rfl (take_ofW HT_.out HW_.out (by kernel_rfl)) (fun _ _ _ h=> h) (Or.inl ⟨by rfl,?_⟩) hHeld ?_ ?_;rotate_left;(rintro w' s0;go_simp;with_reducible rfl);rotate_left;(exact put_q)
   refine one_ (i:=1) (N:=some 11) (bL 26 3) rfl rfl (one_of HT_.out (by kernel_rfl)) (by decide) (fun K hK=> ?_)
   refine goes_ Try.func131 (by kernel_rfl) rfl #[.agg #[.int .i64 Af,.int .i64 Ag,.int .i64 Ah,.int .i64 Ai,.int .i64 Ae,.slice Al Ac.length Am,.int .i64 Aj,.bool Ak]] (by rfl) rfl rfl mp_q ?_
   with_reducible refine (spec_RecordOk.calls k Af Ag Ah Ai Ae _ _ Ac Aj Ak true _ ?_ ?_ A4.out).mono ?_
   (focus repeat (first | exact (Kd.V_reads' HO1_5.out).2.2 | (with_reducible refine Kd.C_alloc ?_ _) | (with_reducible refine Kd.C_drewN ?_ _) | (with_reducible refine Kd.C_drew ?_)))
   exact (Kd.V_reads' HO1_5.out).2.1
   rintro e w44 ⟨rfl,hb⟩
   refine ⟨_,rfl,?_⟩
   replace Ab:=ak (Kd.V_below (kV_q Ab) hb);replace HO1_5:=ak (Kd.V_below (kV_q HO1_5) hb);replace Aa:=bb_ Aa hb;replace HB:=hB_ HB hb
   refine hK.out _ _ (cz8_ Aa) (fun hHeld=> ?_)
   clear hK K
   refine norm_ (a':=?_) ?_ ?_;rotate_left;(show Act.put _ (some 11) _=_;simp only [Act.put,List.setIfInBounds_toArray,List.set_cons_zero,List.set_cons_succ,i64_w,i32_w];rfl)
   refine pQ_ 2 HT_ ?_
   refine pQ_ 3 HT_ ?_
   refine pQ_ 4 HT_ ?_
   refine pQ_ 5 HT_ ?_
   refine pQ_ 6 HT_ ?_
   refine pU_ 7 HT_ ?_
   refine pU_ 8 HT_ ?_
   refine pU_ 9 HT_ ?_
   refine pU_ 10 HT_ ?_
   refine pU_ 11 HT_ ?_
   refine pU_ 12 HT_ ?_
   refine pU_ 13 HT_ ?_
   refine pU_ 14 HT_ ?_
   refine pQ_ 15 HT_ ?_
   refine pQ_ 16 HT_ ?_
   refine pQ_ 17 HT_ ?_
   refine pQ_ 18 HT_ ?_
   refine pQ_ 19 HT_ ?_
   refine pQ_ 20 HT_ ?_
   have H:=HZ52.out;clear HZ52
   by_cases c38:An<0
   ·rw [if_pos c38] at H;have As:=decide_eq_true c38
    (first | rw [As] | (simp only [i64_w,i32_w];first | rw [As]) | skip)
    clear c38;have HZ53:=ak H;clear H
    refine pQ_ 21 HT_ ?_
    refine pQ_ 22 HT_ ?_
    refine pQ_ 23 HT_ ?_
    refine pQ_ 24 HT_ ?_
    refine pQ_ 25 HT_ ?_
    have H:=HZ53.out;clear HZ53
    by_cases c39:(l0.length:Int)≥150
    ·rw [if_pos c39] at H;have At:=decide_eq_true c39
     have Au:decide (150≤l0.length)=true:=decide_eq_true (by omega)
     (first | rw [At] | rw [Au] | (simp only [i64_w,i32_w];first | rw [At] | rw [Au]) | skip)
     clear c39
     simp only [Option.some.injEq,Prod.mk.injEq] at H
     obtain ⟨rfl,rfl⟩:=H
     refine done_ (done_of HT_.out (by kernel_rfl)) ?_
     try go_wp2
     go_ret2
     exact ⟨_,er_q,by (with_reducible repeat (first | apply Kd.V_alloc | apply Kd.V_drewN | apply Kd.V_drew));exact Kd.V_mono Ab.out (fun _ hk=> hk.1),bw_q HB⟩
    ·rw [if_neg c39] at H;have At:=decide_eq_false c39
     have Au:decide (150≤l0.length)=false:=decide_eq_false (by omega)
     (first | rw [At] | rw [Au] | (simp only [i64_w,i32_w];first | rw [At] | rw [Au]) | skip)
     clear c39;replace H:=bsi H;obtain ⟨Bo,A450,H⟩:=H
     (try dsimp only at H)
     have A45:=ak A450;clear A450
     simp only [Option.some.injEq,Prod.mk.injEq] at H
     obtain ⟨rfl,rfl⟩:=H
     refine done_ (done_of HT_.out (by kernel_rfl)) ?_
     obtain ⟨Ed,Ee,Ef,Eg,Eh,Ei,Ej,Ek,El,Em,En,Eo,Ep,Eq,Er,Es⟩:=cf8_ Aa
     try go_wp2_with (first | ((with_reducible refine gC_ 132 ?_);refine gL_ 39 Try.func132 #[.slice A0 l0.length c0,.agg #[.int .i64 Af,.int .i64 Ag,.int .i64 Ah,.int .i64 Ai,.int .i64 Ae,.slice Al Ac.length Am,.int .i64 Aj,.bool Ak]] ?_;(with_reducible refine (spec_l05Put.calls k (fun k_=> (((P0_ k_∨P1_5_ k_)∨w.heap.size≤k_)∧k_≠Ad)) _ _ l0 Af Ag Ah Ai Ae (fun k_=> (((P0_ k_∨P1_5_ k_)∨w.heap.size≤k_)∧k_≠Ad)) _ _ Ac Aj Ak Bo _ ?_ ?_ A45.out).mono ?_);exact Ab.out;exact HO1_5.out;rintro e w52 ⟨v514,rfl,ho0,hb⟩;refine ⟨_,rfl,?_⟩;replace Ab:=ak (Kd.V_elder' (kV_q Ab) (Kd.N_base ho0) hb);replace HO1_5:=ak (Kd.V_elder' (kV_q HO1_5) (Kd.N_base ho0) hb);have Bi:=ak (Kd.N_lower (Kd.N_mono (ok':=fun k_=> ((P0_ k_∨P1_5_ k_)∨w.heap.size≤k_)∧k_≠Ad) ho0 (fun k_ hk_=> ⟨Or.elim hk_ (fun hs_=> Or.elim hs_ (fun hs_=> hs_.1) (fun hs_=> hs_.1)) (fun hn_=> (.inr (Nat.le_trans (below_size (bw_q HB)) hn_))),Or.elim hk_ (fun hs_=> Or.elim hs_ (fun hs_=> hs_.2) (fun hs_=> hs_.2)) (fun hn_=> (Kd.freshB (g:=Ad) (o:=.cells #[.int .i64 Af,.int .i64 Ag,.int .i64 Ah,.int .i64 Ai,.int .i64 Ae,.slice Al Ac.length Am,.int .i64 Aj,.bool Ak] 61 (0,0)) (bk_q Aa) k_ hn_))⟩)) (below_size (bw_q HB)));replace Aa:=bb_ Aa hb;replace HB:=hB_ HB hb;(try clear ho0)))
     go_ret2
     exact ⟨_,er_q,Kd.N_V (by (with_reducible repeat (first | apply Kd.N_alloc | apply Kd.N_drewN | apply Kd.N_drew));exact Kd.N_mono Bi.out (fun _ hk=> hk.1)),bw_q HB⟩
   ·rw [if_neg c38] at H;have As:=decide_eq_false c38
    (first | rw [As] | (simp only [i64_w,i32_w];first | rw [As]) | skip)
    clear c38;replace H:=bsi H;obtain ⟨Bp,A530,H⟩:=H
    (try dsimp only at H)
    have A53:=ak A530;clear A530
    simp only [Option.some.injEq,Prod.mk.injEq] at H
    obtain ⟨rfl,rfl⟩:=H
    refine pU_ 21 HT_ ?_
    refine pU_ 22 HT_ ?_
    refine pU_ 23 HT_ ?_
    refine pQ_ 24 HT_ ?_
    refine pQ_ 25 HT_ ?_
    refine done_ (done_of HT_.out (by kernel_rfl)) ?_
    obtain ⟨Et,Eu,Ev,Ew,Ex,Ey,Ez,Fa,Fb,Fc,Fd,Fe,Ff,Fg,Fh,Fi⟩:=cf8_ Aa
    try go_wp2_with (first | ((with_reducible refine gC_ 132 ?_);refine gL_ 39 Try.func132 #[.slice A0 l0.length c0,.agg #[.int .i64 Af,.int .i64 Ag,.int .i64 Ah,.int .i64 Ai,.int .i64 Ae,.slice Al Ac.length Am,.int .i64 Aj,.bool Ak]] ?_;(with_reducible refine (spec_l05Put.calls k (fun k_=> (((P0_ k_∨P1_5_ k_)∨w.heap.size≤k_)∧k_≠Ad)) _ _ l0 Af Ag Ah Ai Ae (fun k_=> (((P0_ k_∨P1_5_ k_)∨w.heap.size≤k_)∧k_≠Ad)) _ _ Ac Aj Ak Bp _ ?_ ?_ A53.out).mono ?_);exact Ab.out;exact HO1_5.out;rintro e w60 ⟨v517,rfl,ho0,hb⟩;refine ⟨_,rfl,?_⟩;replace Ab:=ak (Kd.V_elder' (kV_q Ab) (Kd.N_base ho0) hb);replace HO1_5:=ak (Kd.V_elder' (kV_q HO1_5) (Kd.N_base ho0) hb);have Bj:=ak (Kd.N_lower (Kd.N_mono (ok':=fun k_=> ((P0_ k_∨P1_5_ k_)∨w.heap.size≤k_)∧k_≠Ad) ho0 (fun k_ hk_=> ⟨Or.elim hk_ (fun hs_=> Or.elim hs_ (fun hs_=> hs_.1) (fun hs_=> hs_.1)) (fun hn_=> (.inr (Nat.le_trans (below_size (bw_q HB)) hn_))),Or.elim hk_ (fun hs_=> Or.elim hs_ (fun hs_=> hs_.2) (fun hs_=> hs_.2)) (fun hn_=> (Kd.freshB (g:=Ad) (o:=.cells #[.int .i64 Af,.int .i64 Ag,.int .i64 Ah,.int .i64 Ai,.int .i64 Ae,.slice Al Ac.length Am,.int .i64 Aj,.bool Ak] 61 (0,0)) (bk_q Aa) k_ hn_))⟩)) (below_size (bw_q HB)));replace Aa:=bb_ Aa hb;replace HB:=hB_ HB hb;(try clear ho0)))
    go_ret2
    exact ⟨_,er_q,Kd.N_V (by (with_reducible repeat (first | apply Kd.N_alloc | apply Kd.N_drewN | apply Kd.N_drew));exact Kd.N_mono Bj.out (fun _ hk=> hk.1)),bw_q HB⟩
 ·replace c5:=Bool.eq_false_iff.mpr c5;subst c5
  rw [if_neg (show ¬(false=true) by decide)] at H
  simp only [Option.some.injEq,Prod.mk.injEq] at H
  obtain ⟨rfl,rfl⟩:=H
  go_enter Try.func93,Try.ntmps93
  try go_wp2_with (first | ((with_reducible refine gate_dst (N:=3) rfl ?_);(try (refine gate_guard (by rfl) ?_;dsimp only));refine box_q 3 #[.int .i64 Af,.int .i64 Ag,.int .i64 Ah,.int .i64 Ai,.int .i64 Ae,.slice Al Ac.length Am,.int .i64 Aj,.bool Ak] 61 ?_;intro Ad hg w61 hbox hb;replace Ab:=ak (Kd.V_below (Kd.V_elderB (kV_q Ab) Ad (Nat.le_of_eq hg.symm)) hb);replace HO1_5:=ak (Kd.V_below (Kd.V_elderB (kV_q HO1_5) Ad (Nat.le_of_eq hg.symm)) hb);have Aa:=ak (hbox);have Bf:=gs_ HB hg;replace HB:=hB_ HB hb;clear hb hbox hg;obtain ⟨Fj,Fk,Fl,Fm,Fn,Fo,Fp,Fq,Fr,Fs,Ft,Fu,Fv,Fw,Fx,Fy⟩:=cf8_ Aa) | ((with_reducible refine gC_ 105 ?_);refine gL_ 9 Try.func105 #[.slice A0 l0.length c0,.agg #[.int .i64 Af,.int .i64 Ag,.int .i64 Ah,.int .i64 Ai,.int .i64 Ae,.slice Al Ac.length Am,.int .i64 Aj,.bool Ak]] ?_;(with_reducible refine (spec_l05At.calls k _ _ l0 Af Ag Ah Ai Ae _ _ Ac Aj Ak An _ ?_ ?_ ?_ ?_ A3.out).mono ?_);(focus repeat (first | exact (Kd.V_reads' Ab.out).2.2 | (with_reducible refine Kd.C_alloc ?_ _) | (with_reducible refine Kd.C_drewN ?_ _) | (with_reducible refine Kd.C_drew ?_)));exact (Kd.V_reads' Ab.out).2.1;(focus repeat (first | exact (Kd.V_reads' HO1_5.out).2.2 | (with_reducible refine Kd.C_alloc ?_ _) | (with_reducible refine Kd.C_drewN ?_ _) | (with_reducible refine Kd.C_drew ?_)));exact (Kd.V_reads' HO1_5.out).2.1;rintro e w63 ⟨rfl,hb⟩;refine ⟨_,rfl,?_⟩;replace Ab:=ak (Kd.V_below (kV_q Ab) hb);replace HO1_5:=ak (Kd.V_below (kV_q HO1_5) hb);replace Aa:=bb_ Aa hb;replace HB:=hB_ HB hb))
  replace Ab:=ak (Kd.V_drew Ab.out);replace HO1_5:=ak (Kd.V_drew HO1_5.out);replace Aa:=ak (blk_drew Aa.out);replace HB:=ak (below_drew1 HB.out)
  refine start_ (n:=26) (S:=fun w'=> cl8 w' Ad (.int .i64 Af) (.int .i64 Ag) (.int .i64 Ah) (.int .i64 Ai) (.int .i64 Ae) (.slice Al Ac.length Am) (.int .i64 Aj) (.bool Ak)) (ds:=[]) (bL 26 0) (by kernel_rfl) rfl rfl (cz8_ Aa) (fun hHeld=> ?_);refine with_tabW spec_l05Install.tab2 spec_l05Install.bits2 (fun HT_ HW_=> ?_)
  generalize w63.drew=w64 at Ab HO1_5 Aa HB hHeld ⊢
  refine take_ (i:=0) (N:=some 10) (v:=?_) (a':=?_) (bL 26 1) rfl rfl (take_ofW HT_.out HW_.out (by kernel_rfl)) (fun _ _ _ h=> h) (Or.inl ⟨by rfl,?_⟩) hHeld ?_ ?_;rotate_left;(rintro w' s0;go_simp;with_reducible rfl);rotate_left;(exact put_q)
  refine one_ (i:=1) (N:=some 11) (bL 26 3) rfl rfl (one_of HT_.out (by kernel_rfl)) (by decide) (fun K hK=> ?_)
  refine goes_ Try.func131 (by kernel_rfl) rfl #[.agg #[.int .i64 Af,.int .i64 Ag,.int .i64 Ah,.int .i64 Ai,.int .i64 Ae,.slice Al Ac.length Am,.int .i64 Aj,.bool Ak]] (by rfl) rfl rfl mp_q ?_
  with_reducible refine (spec_RecordOk.calls k Af Ag Ah Ai Ae _ _ Ac Aj Ak false _ ?_ ?_ A4.out).mono ?_
  (focus repeat (first | exact (Kd.V_reads' HO1_5.out).2.2 | (with_reducible refine Kd.C_alloc ?_ _) | (with_reducible refine Kd.C_drewN ?_ _) | (with_reducible refine Kd.C_drew ?_)))
  exact (Kd.V_reads' HO1_5.out).2.1
  rintro e w65 ⟨rfl,hb⟩
  refine ⟨_,rfl,?_⟩
  replace Ab:=ak (Kd.V_below (kV_q Ab) hb);replace HO1_5:=ak (Kd.V_below (kV_q HO1_5) hb);replace Aa:=bb_ Aa hb;replace HB:=hB_ HB hb
  refine hK.out _ _ (cz8_ Aa) (fun hHeld=> ?_)
  clear hK K
  refine norm_ (a':=?_) ?_ ?_;rotate_left;(show Act.put _ (some 11) _=_;simp only [Act.put,List.setIfInBounds_toArray,List.set_cons_zero,List.set_cons_succ,i64_w,i32_w];rfl)
  refine pQ_ 2 HT_ ?_
  refine pQ_ 3 HT_ ?_
  refine pU_ 4 HT_ ?_
  refine pU_ 5 HT_ ?_
  refine pU_ 6 HT_ ?_
  refine pU_ 7 HT_ ?_
  refine pU_ 8 HT_ ?_
  refine pU_ 9 HT_ ?_
  refine pU_ 10 HT_ ?_
  refine pU_ 11 HT_ ?_
  refine pU_ 12 HT_ ?_
  refine pU_ 13 HT_ ?_
  refine pU_ 14 HT_ ?_
  refine pU_ 15 HT_ ?_
  refine pQ_ 16 HT_ ?_
  refine pQ_ 17 HT_ ?_
  refine pU_ 18 HT_ ?_
  refine pU_ 19 HT_ ?_
  refine pU_ 20 HT_ ?_
  refine pU_ 21 HT_ ?_
  refine pU_ 22 HT_ ?_
  refine pU_ 23 HT_ ?_
  refine pU_ 24 HT_ ?_
  refine pQ_ 25 HT_ ?_
  refine done_ (done_of HT_.out (by kernel_rfl)) ?_
  try go_wp2
  go_ret2
  exact ⟨_,er_q,by (with_reducible repeat (first | apply Kd.V_alloc | apply Kd.V_drewN | apply Kd.V_drew));exact Kd.V_mono Ab.out (fun _ hk=> hk.1),bw_q HB⟩

/-! ### spec_Learn: function 26 -/
def spec_Learn.l0:Nat→List (S61)→List (S61)→Int→Int→Int→Int→List (S93)→List (S102)→List Int→List (S61)→Option (Int×Int×Int×(List (S93))×(List (S102))×List Int×(List (S61))×(List (S61)))
 | 0,_,_,_,_,_,_,_,_,_,_=> none
 | k+1,c,n,b,d,e,g,h,i,j,l=> if b<(c.length:Int) then (if 0≤b then ((spec_l05Install.f k l ((rd_T61 c b).f0) ((rd_T61 c b).f1) ((rd_T61 c b).f2) ((rd_T61 c b).f3) ((rd_T61 c b).f4) ((rd_T61 c b).f5) ((rd_T61 c b).f6) ((rd_T61 c b).f7)).bind fun m=> (if m.2=true then ((spec_l04Copy.f ((rd_T61 c b).f0) ((rd_T61 c b).f1) ((rd_T61 c b).f2) ((rd_T61 c b).f3) ((rd_T61 c b).f4) ((rd_T61 c b).f5) ((rd_T61 c b).f6) ((rd_T61 c b).f7)).bind fun a=> (if n.length<1759218604441 then (spec_Learn.l0 k c (n++[(⟨a.1,a.2.1,a.2.2.1,a.2.2.2.1,a.2.2.2.2.1,a.2.2.2.2.2.1,a.2.2.2.2.2.2.1,a.2.2.2.2.2.2.2⟩:S61)]) (wrap64 (b+1)) d e g h i j m.1) else (none))) else (spec_Learn.l0 k c n (wrap64 (b+1)) d e g h i j l))) else (none)) else ((spec_l04CopyList.f k l).bind fun o=> (some (d,e,g,h,i,j,o,n)))
def spec_Learn.f (k:Nat) (b:Int) (c:Int) (d:Int) (e:List (S93)) (g:List (S102)) (h:List Int) (i:List (S61)) (l1:List (S61)):Option (Int×Int×Int×(List (S93))×(List (S102))×List Int×(List (S61))×(List (S61))):=(spec_l08Copy.f k b c d e g h i).bind fun a=> ((some (([]:List (S61)):List (S61))).bind fun j=> ((spec_SelfOk.f k b c d e g h i).bind fun l=> (if l=true then (spec_Learn.l0 k l1 j 0 a.1 a.2.1 a.2.2.1 a.2.2.2.1 a.2.2.2.2.1 a.2.2.2.2.2.1 a.2.2.2.2.2.2) else (some (a.1,a.2.1,a.2.2.1,a.2.2.2.1,a.2.2.2.2.1,a.2.2.2.2.2.1,a.2.2.2.2.2.2,j)))))
theorem spec_Learn.mono_l:∀k,(∀y0 y1 y2 y3 y4 y5 y6 y7 y8 y9,LeO (spec_Learn.l0 k y0 y1 y2 y3 y4 y5 y6 y7 y8 y9) (spec_Learn.l0 (k+1) y0 y1 y2 y3 y4 y5 y6 y7 y8 y9))
 | 0=> fun _ _ _ _ _ _ _ _ _ _ r h=> by simp [spec_Learn.l0] at h
 | k+1=> by
  have ih0:=spec_Learn.mono_l k
  ·intro y0 y1 y2 y3 y4 y5 y6 y7 y8 y9
   unfold spec_Learn.l0
   with_reducible repeat' (first | apply ih0 | apply spec_SelfOk.mono | apply spec_l04CopyList.mono | apply spec_l05Install.mono | apply spec_l08Copy.mono | exact LeO.refl _ | exact LeO.none _ | refine LeO.ite ?_ ?_ | refine LeO.bind ?_ (fun _=> ?_))
theorem spec_Learn.mono:∀a0 a1 a2 a3 a4 a5 a6 a7 k,LeO (spec_Learn.f k a0 a1 a2 a3 a4 a5 a6 a7) (spec_Learn.f (k+1) a0 a1 a2 a3 a4 a5 a6 a7):=by
 intro a0 a1 a2 a3 a4 a5 a6 a7 k
 have ih0:=spec_Learn.mono_l k
 unfold spec_Learn.f
 with_reducible repeat' (first | apply ih0 | apply spec_SelfOk.mono | apply spec_l04CopyList.mono | apply spec_l05Install.mono | apply spec_l08Copy.mono | exact LeO.refl _ | exact LeO.none _ | refine LeO.ite ?_ ?_ | refine LeO.bind ?_ (fun _=> ?_))
def spec_Learn.T8:Bool×List (List Nat×List Nat):=(true,[([],[]),([0],[0]),([],[]),([],[]),([2,3],[2,3]),([4],[4]),([1,5],[1,5]),([6],[6]),([7],[7]),([7],[7]),([8,6,0,1,2,3,4,5,6,7,8],[8]),([9,10,0,1,2,3,4,5,6,7,8,9,10],[9])])
def spec_Learn.B8:List Nat:=[0,1,0,0,12,28,63,127,255,255,511,2047]
theorem spec_Learn.tab8:rtab .any (opsOf Try.f26 8)=spec_Learn.T8:=by kernel_rfl
theorem spec_Learn.bits8:waitsOk spec_Learn.T8.2 spec_Learn.B8=true:=by kernel_rfl
set_option maxHeartbeats 8000000 in
set_option maxRecDepth 100000 in
theorem spec_Learn.calls (k:Nat) (Bf:Int) (Bg:Int) (Bh:Int) (Cd:Option Addr) (Ce:Nat) (Ap:List (S93)) (Cf:Option Addr) (Cg:Nat) (Aq:List (S102)) (Ch:Option Addr) (Ci:Nat) (Ar:List Int) (Cj:Option Addr) (Ck:Nat) (As:List (S61)) (A1:Option Addr) (c1:Nat) (l1:List (S61)) (r1:Int) (r2:Int) (r3:Int) (r4:List (S93)) (r5:List (S102)) (r6:List Int) (r7:List (S61)) (r8:List (S61)) (w:World) (hr0_3:Kd.C k93 w Cd Ap.length Ap) (hc0_3:Ap.length≤Ce) (hr0_4:Kd.C k102 w Cf Aq.length Aq) (hc0_4:Aq.length≤Cg) (hr0_5:Kd.C (Kd.int .i64) w Ch Ar.length Ar) (hc0_5:Ar.length≤Ci) (hr0_6:Kd.C k61 w Cj As.length As) (hc0_6:As.length≤Ck) (hr1:Kd.C k61 w A1 l1.length l1) (hc1:l1.length≤c1) (h:spec_Learn.f k Bf Bg Bh Ap Aq Ar As l1=some (r1,r2,r3,r4,r5,r6,r7,r8)):
  Calls Try.prog 26 #[.agg #[.int .i64 Bf,.int .i64 Bg,.int .i64 Bh,.slice Cd Ap.length Ce,.slice Cf Aq.length Cg,.slice Ch Ar.length Ci,.slice Cj As.length Ck],.slice A1 l1.length c1] w fun e w'=> ∃v3_ v4_ v5_ v6_ v7_:Value,e=.returned (.tuple #[.agg #[.int .i64 r1,.int .i64 r2,.int .i64 r3,v3_,v4_,v5_,v6_],v7_])∧Kd.R k93 93 w' w.heap.size (fun _=> True) v3_ r4∧Kd.R k102 102 w' w.heap.size (fun _=> True) v4_ r5∧Kd.R (Kd.int .i64) 3 w' w.heap.size (fun _=> True) v5_ r6∧Kd.S k61 61 w' w.heap.size (fun k_=> some k_≠(v7_:Value).ownBlock) v6_ r7∧Kd.S k61 61 w' w.heap.size (fun k_=> some k_≠(v6_:Value).ownBlock) v7_ r8∧Below w.heap.size w w':=by
 have hu43:=Try.underlying43;have hu61:=Try.underlying61;have De:=ak hr0_3;have Df:=ak hc0_3;clear hr0_3 hc0_3;have Dg:=ak hr0_4;have Dh:=ak hc0_4;clear hr0_4 hc0_4;have Di:=ak hr0_5;have Dj:=ak hc0_5;clear hr0_5 hc0_5;have Dk:=ak hr0_6;have Dl:=ak hc0_6;clear hr0_6 hc0_6;have HR1:=ak hr1;have Jw:=ak hc1;clear hr1 hc1;have HB:=ak (Below.refl w.heap.size w);have H:=h
 clear h;unfold spec_Learn.f at H;replace H:=bsi H;obtain ⟨⟨Ax,Ay,Az,Al,Am,An,Cl⟩,A30,H⟩:=H
 (try dsimp only at H)
 have A3:=ak A30;clear A30;obtain ⟨Dd,Cn⟩:∃y_:List (S61),y_=(([]:List (S61))):=⟨_,rfl⟩
 replace H:((spec_SelfOk.f k Bf Bg Bh Ap Aq Ar As).bind fun Da=> (if Da=true then (spec_Learn.l0 k l1 Dd 0 Ax Ay Az Al Am An Cl) else (some (Ax,Ay,Az,Al,Am,An,Cl,Dd))))=some (r1,r2,r3,r4,r5,r6,r7,r8):=by first | (rw [Cn];with_reducible exact H) | (have H2_:=(Option.bind_some _ _).symm.trans H;rw [Cn];with_reducible exact H2_) | (have H2_:=(Option.bind_some _ _).symm.trans H;with_reducible exact H2_) | with_reducible exact H | (rw [Cn];exact H) | exact H
 have Dm:=ak Cn;clear Cn;replace H:=bsi H;obtain ⟨Da,A40,H⟩:=H
 (try dsimp only at H)
 have A4:=ak A40;clear A40;have Fs:=ak H;clear H
 go_enter Try.func26,Try.ntmps26
 go_upto_if 16 with (first | ((with_reducible refine gate_dst (N:=2) rfl ?_);refine box_q 2 #[.int .i64 Bf,.int .i64 Bg,.int .i64 Bh,.slice Cd Ap.length Ce,.slice Cf Aq.length Cg,.slice Ch Ar.length Ci,.slice Cj As.length Ck] 43 ?_;intro Bj hg w6 hbox hb;have Ad:=ak (hbox);have Fm:=gs_ HB hg;replace HB:=hB_ HB hb;clear hb hbox hg) | ((with_reducible refine gate_dst (N:=4) rfl ?_);refine box_q 4 #[.int .i64 0,.int .i64 0,.int .i64 0,.slice none 0 0,.slice none 0 0,.slice none 0 0,.slice none 0 0] 43 ?_;intro Ba hg w7 hbox hb;have Ac:=ak (hbox);have Fn:=gs_ HB hg;replace HB:=hB_ HB hb;have Bk:=nb_ Ad hg;have Bl:=nB_ Ad hg;replace Ad:=bb_ Ad hb;clear hb hbox hg;have Ju:=Bk.out;have Jv:=Bl.out;obtain ⟨Ev,Ew,Ex,Ey,Ez,Fa,Fb,Fc,Fd,Fe,Ff,Fg,Fh,Fi⟩:=cf7_ Ad) | ((with_reducible refine gC_ 92 ?_);refine gL_ 12 Try.func92 #[.agg #[.int .i64 Bf,.int .i64 Bg,.int .i64 Bh,.slice Cd Ap.length Ce,.slice Cf Aq.length Cg,.slice Ch Ar.length Ci,.slice Cj As.length Ck]] ?_;(with_reducible refine (spec_l08Copy.calls k Bf Bg Bh _ _ Ap _ _ Aq _ _ Ar _ _ As Ax Ay Az Al Am An Cl _ ?_ ?_ ?_ ?_ ?_ ?_ ?_ ?_ A3.out).mono ?_);exact ch_ De HB;exact Df.out;exact ch_ Dg HB;exact Dh.out;exact ch_ Di HB;exact Dj.out;exact ch_ Dk HB;exact Dl.out;rintro e w10 ⟨v525,v528,v531,v534,rfl,ho0,ho1,ho2,ho3,hb⟩;refine ⟨_,rfl,?_⟩;have hs_v525:(v525:Value).oneCell'=true:=(by first | (have h_:=Kd.R_slice ho0;obtain ⟨A_,c_,e_⟩:=h_;simp [e_,Value.oneCell']) | (have h_:=Kd.S_slice ho0;obtain ⟨A_,c_,e_⟩:=h_;simp [e_,Value.oneCell']) | (have h_:=Kd.N_slice ho0;obtain ⟨A_,c_,e_⟩:=h_;simp [e_,Value.oneCell']) | (have h_:=Kd.V_slice ho0;obtain ⟨A_,c_,e_⟩:=h_;simp [e_,Value.oneCell']));have hst_v525:=fun (w_:World) (a_:Addr) m_=> run_store Try.prog w_ a_ v525 m_ hs_v525;have hs_v528:(v528:Value).oneCell'=true:=(by first | (have h_:=Kd.R_slice ho1;obtain ⟨A_,c_,e_⟩:=h_;simp [e_,Value.oneCell']) | (have h_:=Kd.S_slice ho1;obtain ⟨A_,c_,e_⟩:=h_;simp [e_,Value.oneCell']) | (have h_:=Kd.N_slice ho1;obtain ⟨A_,c_,e_⟩:=h_;simp [e_,Value.oneCell']) | (have h_:=Kd.V_slice ho1;obtain ⟨A_,c_,e_⟩:=h_;simp [e_,Value.oneCell']));have hst_v528:=fun (w_:World) (a_:Addr) m_=> run_store Try.prog w_ a_ v528 m_ hs_v528;have hs_v531:(v531:Value).oneCell'=true:=(by first | (have h_:=Kd.R_slice ho2;obtain ⟨A_,c_,e_⟩:=h_;simp [e_,Value.oneCell']) | (have h_:=Kd.S_slice ho2;obtain ⟨A_,c_,e_⟩:=h_;simp [e_,Value.oneCell']) | (have h_:=Kd.N_slice ho2;obtain ⟨A_,c_,e_⟩:=h_;simp [e_,Value.oneCell']) | (have h_:=Kd.V_slice ho2;obtain ⟨A_,c_,e_⟩:=h_;simp [e_,Value.oneCell']));have hst_v531:=fun (w_:World) (a_:Addr) m_=> run_store Try.prog w_ a_ v531 m_ hs_v531;have hs_v534:(v534:Value).oneCell'=true:=(by first | (have h_:=Kd.R_slice ho3;obtain ⟨A_,c_,e_⟩:=h_;simp [e_,Value.oneCell']) | (have h_:=Kd.S_slice ho3;obtain ⟨A_,c_,e_⟩:=h_;simp [e_,Value.oneCell']) | (have h_:=Kd.N_slice ho3;obtain ⟨A_,c_,e_⟩:=h_;simp [e_,Value.oneCell']) | (have h_:=Kd.V_slice ho3;obtain ⟨A_,c_,e_⟩:=h_;simp [e_,Value.oneCell']));have hst_v534:=fun (w_:World) (a_:Addr) m_=> run_store Try.prog w_ a_ v534 m_ hs_v534;have At:=ak (Kd.R_lower ho0 (below_size (bw_q HB)));have Au:=ak (Kd.R_lower ho1 (below_size (bw_q HB)));have Av:=ak (Kd.R_lower ho2 (below_size (bw_q HB)));have Aw:=ak (Kd.S_lower ho3 (below_size (bw_q HB)));replace Ad:=bb_ Ad hb;replace Ac:=bb_ Ac hb;replace HB:=hB_ HB hb;(try clear ho0);(try clear ho1);(try clear ho2);(try clear ho3)) | ((with_reducible refine gate_dst (N:=6) rfl ?_);refine box_q 6 #[.int .i64 0,.int .i64 0,.int .i64 0,.slice none 0 0,.slice none 0 0,.slice none 0 0,.slice none 0 0] 43 ?_;intro Ai hg w11 hbox hb;replace At:=rb_ At hb;replace Au:=rb_ Au hb;replace Av:=rb_ Av hb;replace Aw:=sb_ Aw hb;have Ab:=ak (hbox);have Dn:=gs_ HB hg;replace HB:=hB_ HB hb;have Bb:=nb_ Ad hg;have Bc:=nB_ Ad hg;replace Ad:=bb_ Ad hb;have Bd:=nb_ Ac hg;have Be:=nB_ Ac hg;replace Ac:=bb_ Ac hb;clear hb hbox hg;have Iz:=Bc.out;have Ja:=Bb.out;have Jb:=Be.out;have Jc:=Bd.out;obtain ⟨Dq,Dr,Ds,Dt,Du,Dv,Dw,Dx,Dy,Dz,Ea,Eb,Ec,Ed⟩:=cf7_ Ab;obtain ⟨Ao15,co15,eo15⟩:=Kd.R_slice At.out;subst eo15;obtain ⟨Ao16,co16,eo16⟩:=Kd.R_slice Au.out;subst eo16;obtain ⟨Ao17,co17,eo17⟩:=Kd.R_slice Av.out;subst eo17;obtain ⟨Ao18,co18,eo18⟩:=Kd.S_slice Aw.out;subst eo18) | ((with_reducible refine gate_dst (N:=13) rfl ?_);refine Kd.S_lit k61 _ 61 ?hg (N:=13) ?hd (xs:=([]:List (S61))) (inner:=[]) (ok:=fun _=> True) (okp:=fun _=> True) ?hr ?hp (fun _ hk=> hk) trivial (Below.refl _ _) (Nat.le_refl _) (by simp) ?_;(case hd=> rfl);(case hg=> rfl);(case hr=> first | (go_simp;done) | (go_simp;rfl));(case hp=> exact (Reps.none _ _));intro v538 w19 ho20 hb hg_ hnew_;clear hg_ hnew_;(first | rw [←Dm.out] at ho20 | (simp only [Int.reduceToNat] at ho20;rw [←Dm.out] at ho20));replace At:=ak (Kd.R_below (by exact (Kd.R_mono (rF_ (Kd.R_types At.out Ab.out (by decide))) (fun _ h_=> h_.1))) hb);replace Au:=ak (Kd.R_below (by exact (Kd.R_mono (rF_ (Kd.R_types Au.out Ab.out (by decide))) (fun _ h_=> h_.1))) hb);replace Av:=ak (Kd.R_below (by exact (Kd.R_mono (rF_ (Kd.R_types Av.out Ab.out (by decide))) (fun _ h_=> h_.1))) hb);have Cq:=ak (Kd.S_lower (Kd.S_new' ho20 (Kd.S_lt (by exact (Kd.S_mono (sF_ (Kd.S_types Aw.out Ab.out (by decide))) (fun _ h_=> h_.1))))) (below_size (bw_q HB)));replace Aw:=ak (Kd.S_elder' (by exact (Kd.S_mono (sF_ (Kd.S_types Aw.out Ab.out (by decide))) (fun _ h_=> h_.1))) (Kd.S_base ho20) hb);replace Ad:=bF_ Ad hb;replace Ac:=bF_ Ac hb;replace Ab:=bB_ #[.int .i64 Ax,.int .i64 Ay,.int .i64 Az,.slice Ao15 Al.length co15,.slice Ao16 Am.length co16,.slice Ao17 An.length co17,.slice Ao18 Cl.length co18] Ab hb;replace HB:=hB_ HB hb;clear hb ho20;obtain ⟨Ee,Ef,Eg,Eh,Ei,Ej,Ek,El,Em,En,Eo,Ep,Eq,Er⟩:=cf7_ Ad) | ((with_reducible refine gC_ 21 ?_);refine gL_ 15 Try.func21 #[.agg #[.int .i64 Bf,.int .i64 Bg,.int .i64 Bh,.slice Cd Ap.length Ce,.slice Cf Aq.length Cg,.slice Ch Ar.length Ci,.slice Cj As.length Ck]] ?_;(with_reducible refine (spec_SelfOk.calls k Bf Bg Bh _ _ Ap _ _ Aq _ _ Ar _ _ As Da _ ?_ ?_ ?_ ?_ ?_ ?_ ?_ ?_ A4.out).mono ?_);exact ch_ De HB;exact Df.out;exact ch_ Dg HB;exact Dh.out;exact ch_ Di HB;exact Dj.out;exact ch_ Dk HB;exact Dl.out;rintro e w22 ⟨rfl,hb⟩;refine ⟨_,rfl,?_⟩;replace At:=rb_ At hb;replace Au:=rb_ Au hb;replace Av:=rb_ Av hb;replace Aw:=sb_ Aw hb;replace Cq:=sb_ Cq hb;replace Ad:=bb_ Ad hb;replace Ac:=bb_ Ac hb;replace Ab:=bb_ Ab hb;replace HB:=hB_ HB hb))
 have H:=Fs.out;clear Fs
 by_cases c23:Da=true
 ·subst c23;rw [if_pos rfl] at H;have H':=ak H;clear H
  go_wp2
  go_loopg [7,8] k (fun kq v7 v8 w'=> ∃(Cm:List (S61)) (Aa:Int) (Aj:List (S61)) (u537006:Value),v8=.int .i64 Aa∧Aside0 (spec_Learn.l0 kq l1 Cm Aa Ax Ay Az Al Am An Aj=some (r1,r2,r3,r4,r5,r6,r7,r8))∧Aside0 (kq≤k)∧Aside0 (Kd.S k61 61 w' w.heap.size (fun _=> True) v7 Cm)∧Aside0 (Kd.R k93 93 w' w.heap.size (fun _=> True) (.slice Ao15 Al.length co15) Al)∧Aside0 (Kd.R k102 102 w' w.heap.size (fun _=> True) (.slice Ao16 Am.length co16) Am)∧Aside0 (Kd.R (Kd.int .i64) 3 w' w.heap.size (fun _=> True) (.slice Ao17 An.length co17) An)∧Aside0 (Kd.V k61 61 w' w.heap.size (fun k_=> some k_≠(v7:Value).ownBlock∧some k_≠((.slice Ao15 Al.length co15):Value).ownBlock∧some k_≠((.slice Ao16 Am.length co16):Value).ownBlock∧some k_≠((.slice Ao17 An.length co17):Value).ownBlock∧k_≠Bj∧k_≠Ba∧k_≠Ai) u537006 Aj)∧Aside0 (w'.heap[Bj]? =some (.cells #[.int .i64 Bf,.int .i64 Bg,.int .i64 Bh,(.slice Cd Ap.length Ce),(.slice Cf Aq.length Cg),(.slice Ch Ar.length Ci),(.slice Cj As.length Ck)] 43 (0,0)))∧Aside0 (w'.heap[Ba]? =some (.cells #[.int .i64 0,.int .i64 0,.int .i64 0,(.slice none 0 0),(.slice none 0 0),(.slice none 0 0),(.slice none 0 0)] 43 (0,0)))∧Aside0 (w'.heap[Ai]? =some (.cells #[.int .i64 Ax,.int .i64 Ay,.int .i64 Az,(.slice Ao15 Al.length co15),(.slice Ao16 Am.length co16),(.slice Ao17 An.length co17),u537006] 43 (0,0)))∧Aside0 (Below w.heap.size w w'))
  case atStart=> exact ⟨(Dd),(0),(Cl),(.slice Ao18 Cl.length co18),rs_q,H',⟨Nat.le_refl _⟩,⟨by (with_reducible repeat (first | apply Kd.S_alloc | apply Kd.S_drewN | apply Kd.S_drew));exact Kd.S_mono Cq.out (fun _ hk=> trivial)⟩,⟨kR_q At⟩,⟨kR_q Au⟩,⟨kR_q Av⟩,⟨Kd.S_V (by (with_reducible repeat (first | apply Kd.S_alloc | apply Kd.S_drewN | apply Kd.S_drew));exact Kd.S_mono (Kd.S_types (Kd.S_types (Kd.S_types (Kd.S_apart' (Kd.S_apart' (Kd.S_apart' Aw.out (Kd.R_typed At.out) (by decide)) (Kd.R_typed Au.out) (by decide)) (Kd.R_typed Av.out) (by decide)) Ad.out (by decide)) Ac.out (by decide)) Ab.out (by decide)) (fun _ hk=> ⟨hk.1.1.1.1.1.1.2,⟨hk.1.1.1.1.1.2,⟨hk.1.1.1.1.2,⟨hk.1.1.1.2,⟨hk.1.1.2,⟨hk.1.2,hk.2⟩⟩⟩⟩⟩⟩))⟩,⟨bk_q Ad⟩,⟨bk_q Ac⟩,⟨bk_q Ab⟩,⟨bw_q HB⟩⟩
  case round=>
   clear H';(try clear c1);(try clear c2);(try clear p2);(try clear c8);(try clear c9);(try clear c12);(try clear c13);(try clear c21);(try clear c23)
   try clear Dq Dr Ds Dt Du Dv Dw
   try clear Ee Ef Eg Eh Ei Ej Ek
   try clear Ev Ew Ex Ey Ez Fa Fb
   try clear Dx Dy Dz Ea Eb Ec Ed
   try clear El Em En Eo Ep Eq Er
   try clear Fc Fd Fe Ff Fg Fh Fi
   obtain ⟨Cm,Aa,Aj,u537006,rfl,HA,Do,Ak,Af,Ag,Ah,Ae,Ad,Ac,Ab,HB⟩:=hrel
   cases gk with
   | zero=> exact absurd HA.out (by simp [spec_Learn.l0])
   | succ k1=>
    have H:=HA.out;clear HA
    simp only [spec_Learn.l0] at H
    by_cases c24:Aa<(l1.length:Int)
    ·rw [if_pos c24] at H;have Co:=decide_eq_true c24;clear c24
     (first | rw [Co] | rw [Db] | (simp only [i64_w,i32_w];first | rw [Co] | rw [Db]) | skip)
     by_cases c25:0≤Aa
     ·rw [if_pos c25] at H;have Jd:=decide_eq_true c25
      clear c25;replace H:=bsi H;obtain ⟨⟨Ao,Fj⟩,A260,H⟩:=H
      (try dsimp only at H)
      have A26:=ak A260;clear A260;have HZ26:=ak H;clear H
      try go_wp2
      replace Ak:=ak (Kd.S_drew Ak.out);replace Af:=ak (Kd.R_drew Af.out);replace Ag:=ak (Kd.R_drew Ag.out);replace Ah:=ak (Kd.R_drew Ah.out);replace Ae:=ak (Kd.V_drew Ae.out);replace Ad:=ak (blk_drew Ad.out);replace Ac:=ak (blk_drew Ac.out);replace Ab:=ak (blk_drew Ab.out);replace HB:=ak (below_drew1 HB.out)
      have p544:0≤(Aa:Int):=of_decide_eq_true as_q
      have q544:Aa<(l1.length:Int):=of_decide_eq_true as_q
      obtain ⟨Dc,A544_5,c544_5,e544,Bn,Bo,Bp,Bq,Br,Bs,Bt,Bu,hl544_5,hi544_5⟩:=at_T61 HR1.out Aa p544 q544;have hw544_7:=Bu;have hw544_6:=Bt;have hw544_5:=Bs;have hw544_4:=Br;have hw544_3:=Bq;have hw544_2:=Bp;have hw544_1:=Bo;have hw544_0:=Bn
      cases e544
      obtain ⟨Bn,Bo,Bp,Bq,Br,Bs,Bt,Bu⟩:=hb8_ HB Bn Bo Bp Bq Br Bs Bt Bu;have Cz:=ak hi544_5;have Es:=ak hl544_5;clear hi544_5 hl544_5;replace p544:=eq_true p544;replace q544:=eq_true q544;obtain ⟨Ao31,co31,eo31⟩:=Kd.V_slice Ae.out
      (first | subst eo31 | (injection eo31 with f1_ f2_ f3_;have f4_:=f1_.symm;have f5_:=f3_.symm;clear f1_ f2_ f3_;subst f4_;subst f5_))
      refine start_ (n:=12) (S:=fun w'=> cl7 w' Ai (.int .i64 Ax) (.int .i64 Ay) (.int .i64 Az) (.slice Ao15 Al.length co15) (.slice Ao16 Am.length co16) (.slice Ao17 An.length co17) (.slice Ao31 Aj.length co31)∧el8 w' (Dc.add ((Aa).toNat*8)) (.int .i64 ((rd_T61 l1 Aa).f0)) (.int .i64 ((rd_T61 l1 Aa).f1)) (.int .i64 ((rd_T61 l1 Aa).f2)) (.int .i64 ((rd_T61 l1 Aa).f3)) (.int .i64 ((rd_T61 l1 Aa).f4)) (.slice A544_5 ((rd_T61 l1 Aa).f5).length c544_5) (.int .i64 ((rd_T61 l1 Aa).f6)) (.bool ((rd_T61 l1 Aa).f7))) (ds:=[]) (bL 12 0) (by kernel_rfl) rfl rfl ⟨cz7_ Ab,hb8_ HB hw544_0 hw544_1 hw544_2 hw544_3 hw544_4 hw544_5 hw544_6 hw544_7⟩ (fun hHeld=> ?_);refine with_tabW spec_Learn.tab8 spec_Learn.bits8 (fun HT_ HW_=> ?_)
      generalize wr.drew=w30 at Ak Af Ag Ah Ae Ad Ac Ab HB Cz Bn Bo Bp Bq Br Bs Bt Bu hHeld ⊢
      refine pQ_ 0 HT_ ?_
      refine pQ_ 2 HT_ ?_
      refine pQ_ 3 HT_ ?_
      refine pQ_ 4 HT_ ?_
      refine take_ (i:=1) (N:=some 27) (v:=?_) (a':=?_) (bL 12 31) rfl rfl (take_ofW HT_.out HW_.out (by kernel_rfl)) (fun _ _ _ h=> h) (Or.inl ⟨by rfl,?_⟩) hHeld ?_ ?_;rotate_left;(rintro w' ⟨s0,s1⟩;go_simp;with_reducible rfl);rotate_left;(exact put_q)
      refine take_ (i:=5) (N:=some 31) (v:=?_) (a':=?_) (bL 12 63) rfl rfl (take_ofW HT_.out HW_.out (by kernel_rfl)) (fun _ _ _ h=> h) (Or.inl ⟨by rfl,?_⟩) hHeld ?_ ?_;rotate_left;(rintro w' ⟨s0,s1⟩;go_simp;with_reducible rfl);rotate_left;(exact put_q)
      refine one_ (i:=6) (N:=some 32) (bL 12 127) rfl rfl (one_of HT_.out (by kernel_rfl)) (by decide) (fun K hK=> ?_)
      refine goes_ Try.func93 (by kernel_rfl) rfl #[.slice Ao31 Aj.length co31,.agg #[.int .i64 ((rd_T61 l1 Aa).f0),.int .i64 ((rd_T61 l1 Aa).f1),.int .i64 ((rd_T61 l1 Aa).f2),.int .i64 ((rd_T61 l1 Aa).f3),.int .i64 ((rd_T61 l1 Aa).f4),.slice A544_5 ((rd_T61 l1 Aa).f5).length c544_5,.int .i64 ((rd_T61 l1 Aa).f6),.bool ((rd_T61 l1 Aa).f7)]] (by rfl) rfl rfl mp_q ?_
      with_reducible refine (spec_l05Install.calls k1 (fun k_=> (some k_≠(u7:Value).ownBlock∧(some k_≠(.slice Ao15 Al.length co15:Value).ownBlock∧(some k_≠(.slice Ao16 Am.length co16:Value).ownBlock∧(some k_≠(.slice Ao17 An.length co17:Value).ownBlock∧(k_≠Bj∧(k_≠Ba∧k_≠Ai))))))) _ _ Aj ((rd_T61 l1 Aa).f0) ((rd_T61 l1 Aa).f1) ((rd_T61 l1 Aa).f2) ((rd_T61 l1 Aa).f3) ((rd_T61 l1 Aa).f4) (fun k_=> k_<w.heap.size) _ _ ((rd_T61 l1 Aa).f5) ((rd_T61 l1 Aa).f6) ((rd_T61 l1 Aa).f7) Ao Fj _ ?_ ?_ A26.out).mono ?_
      exact Ae.out
      exact Kd.V_mk Es.out (Kd.F_below (Kd.C_F k127_heap Cz.out) (bw_q HB))
      rintro e w32 ⟨v546,rfl,ho0,hb⟩
      refine ⟨_,rfl,?_⟩
      replace Ae:=ak (Kd.V_below (kV_q Ae) hb)
      have Bv:=ak (Kd.V_lower (Kd.V_mono (ok':=fun k_=> some k_≠(u7:Value).ownBlock∧some k_≠(.slice Ao15 Al.length co15:Value).ownBlock∧some k_≠(.slice Ao16 Am.length co16:Value).ownBlock∧some k_≠(.slice Ao17 An.length co17:Value).ownBlock∧k_≠Bj∧k_≠Ba∧k_≠Ai) ho0 (fun k_ hk_=> ⟨Or.elim hk_ (fun hs_=> Or.elim hs_ (fun hs_=> hs_.1) (fun hs_=> fun e_=> Nat.not_le.2 hs_ (Kd.S_base Ak.out k_ e_.symm))) (fun hn_=> (Kd.fresh' (Kd.S_lt (kS_q Ak)) k_ hn_)),Or.elim hk_ (fun hs_=> Or.elim hs_ (fun hs_=> hs_.2.1) (fun hs_=> fun e_=> Nat.not_le.2 hs_ (Kd.R_base Af.out k_ e_.symm))) (fun hn_=> (Kd.fresh' (Kd.R_lt (kR_q Af)) k_ hn_)),Or.elim hk_ (fun hs_=> Or.elim hs_ (fun hs_=> hs_.2.2.1) (fun hs_=> fun e_=> Nat.not_le.2 hs_ (Kd.R_base Ag.out k_ e_.symm))) (fun hn_=> (Kd.fresh' (Kd.R_lt (kR_q Ag)) k_ hn_)),Or.elim hk_ (fun hs_=> Or.elim hs_ (fun hs_=> hs_.2.2.2.1) (fun hs_=> fun e_=> Nat.not_le.2 hs_ (Kd.R_base Ah.out k_ e_.symm))) (fun hn_=> (Kd.fresh' (Kd.R_lt (kR_q Ah)) k_ hn_)),Or.elim hk_ (fun hs_=> Or.elim hs_ (fun hs_=> hs_.2.2.2.2.1) (fun hs_=> fun e_=> Nat.not_le.2 hs_ (by rw [e_];exact Fm.out))) (fun hn_=> (Kd.freshB (g:=Bj) (o:=.cells #[.int .i64 Bf,.int .i64 Bg,.int .i64 Bh,.slice Cd Ap.length Ce,.slice Cf Aq.length Cg,.slice Ch Ar.length Ci,.slice Cj As.length Ck] 43 (0,0)) (bk_q Ad) k_ hn_)),Or.elim hk_ (fun hs_=> Or.elim hs_ (fun hs_=> hs_.2.2.2.2.2.1) (fun hs_=> fun e_=> Nat.not_le.2 hs_ (by rw [e_];exact Fn.out))) (fun hn_=> (Kd.freshB (g:=Ba) (o:=.cells #[.int .i64 0,.int .i64 0,.int .i64 0,.slice none 0 0,.slice none 0 0,.slice none 0 0,.slice none 0 0] 43 (0,0)) (bk_q Ac) k_ hn_)),Or.elim hk_ (fun hs_=> Or.elim hs_ (fun hs_=> hs_.2.2.2.2.2.2) (fun hs_=> fun e_=> Nat.not_le.2 hs_ (by rw [e_];exact Dn.out))) (fun hn_=> (Kd.freshB (g:=Ai) (o:=.cells #[.int .i64 Ax,.int .i64 Ay,.int .i64 Az,.slice Ao15 Al.length co15,.slice Ao16 Am.length co16,.slice Ao17 An.length co17,.slice Ao31 Aj.length co31] 43 (0,0)) (bk_q Ab) k_ hn_))⟩)) (below_size (bw_q HB)))
      replace Ak:=sb_ Ak hb;replace Af:=rb_ Af hb;replace Ag:=rb_ Ag hb;replace Ah:=rb_ Ah hb;replace Ad:=bb_ Ad hb;replace Ac:=bb_ Ac hb;replace Ab:=bb_ Ab hb;replace HB:=hB_ HB hb;(try clear ho0)
      refine hK.out _ _ ⟨cz7_ Ab,hb8_ HB hw544_0 hw544_1 hw544_2 hw544_3 hw544_4 hw544_5 hw544_6 hw544_7⟩ (fun hHeld=> ?_)
      clear hK K
      refine norm_ (a':=?_) ?_ ?_;rotate_left;(show Act.put _ (some 32) _=_;simp only [Act.put,List.setIfInBounds_toArray,List.set_cons_zero,List.set_cons_succ,i64_w,i32_w];rfl)
      refine pQ_ 7 HT_ ?_
      refine pQ_ 8 HT_ ?_
      refine pQ_ 9 HT_ ?_
      refine pQ_ 10 HT_ ?_
      refine pQ_ 11 HT_ ?_
      have H:=HZ26.out;clear HZ26
      by_cases c27:Fj=true
      ·subst c27;rw [if_pos rfl] at H;replace H:=bsi H;obtain ⟨⟨Cs,Ct,Cu,Cv,Cw,Bm,Cx,Cy⟩,A280,H⟩:=H
       (try dsimp only at H)
       have A28:=ak A280;clear A280
       by_cases c29:Cm.length<1759218604441
       ·rw [if_pos c29] at H;have Fo:=ak c29;clear c29;obtain ⟨Fk,Cp⟩:∃y_:List (S61),y_=(Cm++[(⟨Cs,Ct,Cu,Cv,Cw,Bm,Cx,Cy⟩:S61)]):=⟨_,rfl⟩
        replace H:(spec_Learn.l0 k1 l1 Fk (wrap64 (Aa+1)) Ax Ay Az Al Am An Ao)=some (r1,r2,r3,r4,r5,r6,r7,r8):=by first | (rw [Cp];with_reducible exact H) | (have H2_:=(Option.bind_some _ _).symm.trans H;rw [Cp];with_reducible exact H2_) | (have H2_:=(Option.bind_some _ _).symm.trans H;with_reducible exact H2_) | with_reducible exact H | (rw [Cp];exact H) | exact H
        have Fp:=ak Cp;clear Cp;have H':=ak H;clear H
        refine done_ (done_of HT_.out (by kernel_rfl)) ?_
        obtain ⟨Ao33,co33,eo33⟩:=Kd.V_slice Bv.out;subst eo33;have Je:=Bc.out;have Jf:=Bb.out;have Jg:=Be.out;have Jh:=Bd.out;obtain ⟨Ft,Fu,Fv,Fw,Fx,Fy,Fz,Ga,Gb,Gc,Gd,Ge,Gf,Gg⟩:=cf7_ Ab
        have p549:0≤(Aa:Int):=of_decide_eq_true as_q
        have q549:Aa<(l1.length:Int):=of_decide_eq_true as_q
        obtain ⟨Fq,A549_5,c549_5,e549,Bi,Bw,Bx,By,Bz,Ca,Cb,Cc,hl549_5,hi549_5⟩:=at_T61 HR1.out Aa p549 q549
        obtain rfl:Dc=Fq:=(by injection e549)
        have hn549_0:Dc.block≠Ai:=Nat.ne_of_lt (Nat.lt_of_lt_of_le (by have:=World.block_lt_of_cell? _ _ Bi;first | rwa [add_block] at this | exact this) Dn.out)
        obtain ⟨Bi,Bw,Bx,By,Bz,Ca,Cb,Cc⟩:=hb8_ HB Bi Bw Bx By Bz Ca Cb Cc;have Et:=ak hi549_5;have Eu:=ak hl549_5;clear hi549_5 hl549_5
        replace Bi:=(cell_far (p:=⟨Ai,6,none⟩) (by first | (rw [add_block];exact hn549_0) | (show (Addr.add _ _).block≠_;rw [add_block];exact hn549_0) | exact hn549_0) (.slice Ao33 Ao.length co33)).trans Bi
        replace Bw:=(cell_far (p:=⟨Ai,6,none⟩) (by first | (rw [add_block];exact hn549_0) | (show (Addr.add _ _).block≠_;rw [add_block];exact hn549_0) | exact hn549_0) (.slice Ao33 Ao.length co33)).trans Bw
        replace Bx:=(cell_far (p:=⟨Ai,6,none⟩) (by first | (rw [add_block];exact hn549_0) | (show (Addr.add _ _).block≠_;rw [add_block];exact hn549_0) | exact hn549_0) (.slice Ao33 Ao.length co33)).trans Bx
        replace By:=(cell_far (p:=⟨Ai,6,none⟩) (by first | (rw [add_block];exact hn549_0) | (show (Addr.add _ _).block≠_;rw [add_block];exact hn549_0) | exact hn549_0) (.slice Ao33 Ao.length co33)).trans By
        replace Bz:=(cell_far (p:=⟨Ai,6,none⟩) (by first | (rw [add_block];exact hn549_0) | (show (Addr.add _ _).block≠_;rw [add_block];exact hn549_0) | exact hn549_0) (.slice Ao33 Ao.length co33)).trans Bz
        replace Ca:=(cell_far (p:=⟨Ai,6,none⟩) (by first | (rw [add_block];exact hn549_0) | (show (Addr.add _ _).block≠_;rw [add_block];exact hn549_0) | exact hn549_0) (.slice Ao33 Ao.length co33)).trans Ca
        replace Cb:=(cell_far (p:=⟨Ai,6,none⟩) (by first | (rw [add_block];exact hn549_0) | (show (Addr.add _ _).block≠_;rw [add_block];exact hn549_0) | exact hn549_0) (.slice Ao33 Ao.length co33)).trans Cb
        replace Cc:=(cell_far (p:=⟨Ai,6,none⟩) (by first | (rw [add_block];exact hn549_0) | (show (Addr.add _ _).block≠_;rw [add_block];exact hn549_0) | exact hn549_0) (.slice Ao33 Ao.length co33)).trans Cc
        clear hn549_0;replace p549:=eq_true p549;replace q549:=eq_true q549
        try go_wp2_with (first | ((with_reducible refine gC_ 94 ?_);refine gL_ 43 Try.func94 #[.agg #[.int .i64 ((rd_T61 l1 Aa).f0),.int .i64 ((rd_T61 l1 Aa).f1),.int .i64 ((rd_T61 l1 Aa).f2),.int .i64 ((rd_T61 l1 Aa).f3),.int .i64 ((rd_T61 l1 Aa).f4),.slice A549_5 ((rd_T61 l1 Aa).f5).length c549_5,.int .i64 ((rd_T61 l1 Aa).f6),.bool ((rd_T61 l1 Aa).f7)]] ?_;(with_reducible refine (spec_l04Copy.calls ((rd_T61 l1 Aa).f0) ((rd_T61 l1 Aa).f1) ((rd_T61 l1 Aa).f2) ((rd_T61 l1 Aa).f3) ((rd_T61 l1 Aa).f4) _ _ ((rd_T61 l1 Aa).f5) ((rd_T61 l1 Aa).f6) ((rd_T61 l1 Aa).f7) Cs Ct Cu Cv Cw Bm Cx Cy _ ?_ ?_ A28.out).mono ?_);exact Kd.C_below Et.out (bw_q HB);exact Eu.out;rintro e w37 ⟨v556,rfl,ho0,hb⟩;refine ⟨_,rfl,?_⟩;have hs_v556:(v556:Value).oneCell'=true:=(by first | (have h_:=Kd.R_slice ho0;obtain ⟨A_,c_,e_⟩:=h_;simp [e_,Value.oneCell']) | (have h_:=Kd.S_slice ho0;obtain ⟨A_,c_,e_⟩:=h_;simp [e_,Value.oneCell']) | (have h_:=Kd.N_slice ho0;obtain ⟨A_,c_,e_⟩:=h_;simp [e_,Value.oneCell']) | (have h_:=Kd.V_slice ho0;obtain ⟨A_,c_,e_⟩:=h_;simp [e_,Value.oneCell']));have hst_v556:=fun (w_:World) (a_:Addr) m_=> run_store Try.prog w_ a_ v556 m_ hs_v556;replace Ak:=ak (Kd.S_elder' (by exact (Kd.S_mono (sF_ (Kd.S_types Ak.out Ab.out (by decide))) (fun _ h_=> h_.1))) (Kd.R_base ho0) hb);replace Af:=ak (Kd.R_below (by exact (Kd.R_mono (rF_ (Kd.R_types Af.out Ab.out (by decide))) (fun _ h_=> h_.1))) hb);replace Ag:=ak (Kd.R_below (by exact (Kd.R_mono (rF_ (Kd.R_types Ag.out Ab.out (by decide))) (fun _ h_=> h_.1))) hb);replace Ah:=ak (Kd.R_below (by exact (Kd.R_mono (rF_ (Kd.R_types Ah.out Ab.out (by decide))) (fun _ h_=> h_.1))) hb);replace Ae:=ak (Kd.V_elder' (by (with_reducible repeat (first | apply Kd.V_alloc | apply Kd.V_drewN | apply Kd.V_drew));exact (Kd.V_mono (Kd.V_far (p:=⟨Ai,6,none⟩) (Kd.V_mono Ae.out (fun k_ hk=> (⟨hk,hk.2.2.2.2.2.2⟩:_∧k_≠Ai))) (fun _ hk=> hk.2) (.slice Ao33 Ao.length co33)) (fun _ h_=> h_.1))) (Kd.R_base ho0) hb);replace Bv:=ak (Kd.V_elder' (by (with_reducible repeat (first | apply Kd.V_alloc | apply Kd.V_drewN | apply Kd.V_drew));exact (Kd.V_mono (Kd.V_far (p:=⟨Ai,6,none⟩) (Kd.V_mono Bv.out (fun k_ hk=> (⟨hk,hk.2.2.2.2.2.2⟩:_∧k_≠Ai))) (fun _ hk=> hk.2) (.slice Ao33 Ao.length co33)) (fun _ h_=> h_.1))) (Kd.R_base ho0) hb);have Cr:=ak (Kd.R_lower ho0 (below_size (bw_q HB)));replace Ad:=bF_ Ad hb;replace Ac:=bF_ Ac hb;replace Ab:=bB_ #[.int .i64 Ax,.int .i64 Ay,.int .i64 Az,.slice Ao15 Al.length co15,.slice Ao16 Am.length co16,.slice Ao17 An.length co17,.slice Ao33 Ao.length co33] Ab hb;replace HB:=hB_ HB hb;(try clear ho0);obtain ⟨Ao39,co39,eo39⟩:=Kd.R_slice Cr.out;subst eo39) | ((with_reducible refine gate_builtin (b:=.append) (xs:=#[.tmp 38,.tmp 44]) rfl ?_);at_builtin;refine Kd.S_append k61 (w0:=w) w.heap.size rfl (.tmp 38) (.tmp 44) 41 61 (.agg #[(.int .i64 0),(.int .i64 0),(.int .i64 0),(.int .i64 0),(.int .i64 0),(.slice none 0 0),(.int .i64 0),(.bool false)]) 80 rfl Try.underlying41 info61 rfl (by decide) (by omega) u7 Cm (⟨Cs,Ct,Cu,Cv,Cw,Bm,Cx,Cy⟩:S61) [.int .i64 Cs,.int .i64 Ct,.int .i64 Cu,.int .i64 Cv,.int .i64 Cw,.slice Ao39 Bm.length co39,.int .i64 Cx,.bool Cy] (fun _=> True) (fun k_=> some k_=(.slice Ao39 Bm.length co39:Value).ownBlock) rfl rfl ?_ (fun k_ hk_=> ((Kd.R_mono (ok':=fun k_=> ((fun _=> True)) k_∧some k_≠(u7:Value).ownBlock) (Kd.R_apart' (Cr.out) (Kd.S_typed Ak.out) (by decide)) (fun k_ hk=> ⟨trivial,hk.2⟩))).1 k_ hk_.symm) ?_ ?_ ?_ ?_ ?_ ?_;exact k61_mkM _ _ _ (⟨Cs,Ct,Cu,Cv,Cw,Bm,Cx,Cy⟩:S61) (Kd.R_mono (Kd.R_tight rfl (Kd.R_mono (ok':=fun k_=> ((fun _=> True)) k_∧some k_≠(u7:Value).ownBlock) (Kd.R_apart' (Cr.out) (Kd.S_typed Ak.out) (by decide)) (fun k_ hk=> ⟨trivial,hk.2⟩))) (fun _ h_=> h_));exact (fun _ _=> trivial);(focus exact (by (with_reducible repeat (first | apply Kd.S_alloc | apply Kd.S_drewN | apply Kd.S_drew));exact Kd.S_mono Ak.out (fun k_ hk=> ⟨trivial,fun e_=> hk.2 e_⟩)));exact (bw_q HB);exact (below_size (bw_q HB));(focus have:=Fo.out;omega);intro v561 w38 ho hb hg hat;rw [←Fp.out] at ho;replace Af:=ak (Kd.R_over' (kR_q Af) (Kd.S_typed (kS_q Ak)) (by decide) hg);replace Ag:=ak (Kd.R_over' (kR_q Ag) (Kd.S_typed (kS_q Ak)) (by decide) hg);replace Ah:=ak (Kd.R_over' (kR_q Ah) (Kd.S_typed (kS_q Ak)) (by decide) hg);replace Ae:=ak (Kd.V_afterv (ok:=(fun k_=> some k_≠(.slice Ao15 Al.length co15:Value).ownBlock∧some k_≠(.slice Ao16 Am.length co16:Value).ownBlock∧some k_≠(.slice Ao17 An.length co17:Value).ownBlock∧some k_≠(.slice Ao39 Bm.length co39:Value).ownBlock∧k_≠Bj∧k_≠Ba∧k_≠Ai)) (by (with_reducible repeat (first | apply Kd.V_alloc | apply Kd.V_drewN | apply Kd.V_drew));exact Kd.V_mono Ae.out (fun _ hk=> ⟨⟨hk.1.2.1,⟨hk.1.2.2.1,⟨hk.1.2.2.2.1,⟨hk.2,⟨hk.1.2.2.2.2.1,⟨hk.1.2.2.2.2.2.1,hk.1.2.2.2.2.2.2⟩⟩⟩⟩⟩⟩,hk.1.1⟩)) hg hat);replace Ad:=bG_ Ad hg (Kd.S_ne Ak.out Ad.out (by decide));replace Ac:=bG_ Ac hg (Kd.S_ne Ak.out Ac.out (by decide));replace Ab:=bG_ Ab hg (Kd.S_ne Ak.out Ab.out (by decide));replace Bv:=ak (Kd.V_afterv (ok:=(fun k_=> some k_≠(.slice Ao15 Al.length co15:Value).ownBlock∧some k_≠(.slice Ao16 Am.length co16:Value).ownBlock∧some k_≠(.slice Ao17 An.length co17:Value).ownBlock∧some k_≠(.slice Ao39 Bm.length co39:Value).ownBlock∧k_≠Bj∧k_≠Ba∧k_≠Ai)) (by (with_reducible repeat (first | apply Kd.V_alloc | apply Kd.V_drewN | apply Kd.V_drew));exact Kd.V_mono Bv.out (fun _ hk=> ⟨⟨hk.1.2.1,⟨hk.1.2.2.1,⟨hk.1.2.2.2.1,⟨hk.2,⟨hk.1.2.2.2.2.1,⟨hk.1.2.2.2.2.2.1,hk.1.2.2.2.2.2.2⟩⟩⟩⟩⟩⟩,hk.1.1⟩)) hg hat);replace HB:=ak (hb);have Fr:=ak (ho);clear Ak Cr;clear ho hb hg hat))
        go_roundg k1
        case measure=> have:=Do.out;omega
        case rel=> exact ⟨(Fk),(wrap64 (Aa+1)),(Ao),(.slice Ao33 Ao.length co33),rs_q,H',⟨by have:=Do.out;omega⟩,⟨kS_q Fr⟩,⟨kR_q Af⟩,⟨kR_q Ag⟩,⟨kR_q Ah⟩,⟨by (with_reducible repeat (first | apply Kd.V_alloc | apply Kd.V_drewN | apply Kd.V_drew));exact Kd.V_mono Bv.out (fun _ hk=> ⟨hk.2,⟨hk.1.1,⟨hk.1.2.1,⟨hk.1.2.2.1,⟨hk.1.2.2.2.2.1,⟨hk.1.2.2.2.2.2.1,hk.1.2.2.2.2.2.2⟩⟩⟩⟩⟩⟩)⟩,⟨bk_q Ad⟩,⟨bk_q Ac⟩,⟨bk_q Ab⟩,⟨bw_q HB⟩⟩
       ·rw [if_neg c29] at H
        exact absurd H (by simp)
      ·replace c27:=Bool.eq_false_iff.mpr c27;subst c27
       rw [if_neg (show ¬(false=true) by decide)] at H
       have H':=ak H;clear H
       refine done_ (done_of HT_.out (by kernel_rfl)) ?_
       try go_wp2
       go_roundg k1
       case measure=> have:=Do.out;omega
       case rel=> exact ⟨(Cm),(wrap64 (Aa+1)),(Aj),(.slice Ao31 Aj.length co31),rs_q,H',⟨by have:=Do.out;omega⟩,⟨kS_q Ak⟩,⟨kR_q Af⟩,⟨kR_q Ag⟩,⟨kR_q Ah⟩,⟨by (with_reducible repeat (first | apply Kd.V_alloc | apply Kd.V_drewN | apply Kd.V_drew));exact Ae.out⟩,⟨bk_q Ad⟩,⟨bk_q Ac⟩,⟨bk_q Ab⟩,⟨bw_q HB⟩⟩
     ·rw [if_neg c25] at H
      exact absurd H (by simp)
    ·rw [if_neg c24] at H;have Co:=decide_eq_false c24;clear c24
     (first | rw [Co] | rw [Db] | (simp only [i64_w,i32_w];first | rw [Co] | rw [Db]) | skip)
     replace H:=bsi H;obtain ⟨Fl,A430,H⟩:=H
     (try dsimp only at H)
     have A43:=ak A430;clear A430
     simp only [Option.some.injEq,Prod.mk.injEq] at H
     obtain ⟨rfl,rfl,rfl,rfl,rfl,rfl,rfl,rfl⟩:=H;have Ji:=Bc.out;have Jj:=Bb.out;have Jk:=Be.out;have Jl:=Bd.out;obtain ⟨Gh,Gi,Gj,Gk,Gl,Gm,Gn,Go,Gp,Gq,Gr,Gs,Gt,Gu⟩:=cf7_ Ab;obtain ⟨Ao47,co47,eo47⟩:=Kd.V_slice Ae.out;subst eo47
     go_wp2_with (first | ((with_reducible refine gC_ 95 ?_);refine gL_ 48 Try.func95 #[.slice Ao47 Aj.length co47] ?_;(with_reducible refine (spec_l04CopyList.calls k1 _ _ Aj Fl _ ?_ ?_ A43.out).mono ?_);(focus repeat (first | exact (Kd.V_reads' Ae.out).2.2 | (with_reducible refine Kd.C_alloc ?_ _) | (with_reducible refine Kd.C_drewN ?_ _) | (with_reducible refine Kd.C_drew ?_)));exact (Kd.V_reads' Ae.out).2.1;rintro e w48 ⟨v542,rfl,ho0,hb⟩;refine ⟨_,rfl,?_⟩;replace Af:=rb_ Af hb;replace Ag:=rb_ Ag hb;replace Ah:=rb_ Ah hb;replace Ae:=ak (Kd.V_elder' (kV_q Ae) (Kd.S_base ho0) hb);have Dp:=ak (Kd.S_lower (Kd.S_new' ho0 (Kd.S_lt (kS_q Ak))) (below_size (bw_q HB)));replace Ak:=ak (Kd.S_elder' (kS_q Ak) (Kd.S_base ho0) hb);replace Ad:=bb_ Ad hb;replace Ac:=bb_ Ac hb;replace Ab:=bb_ Ab hb;replace HB:=hB_ HB hb;(try clear ho0);obtain ⟨Ao49,co49,eo49⟩:=Kd.S_slice Dp.out;subst eo49;obtain ⟨Gv,Gw,Gx,Gy,Gz,Ha,Hb,Hc,Hd,He,Hf,Hg,Hh,Hi⟩:=cf7_ Ab;have Jm:=Bl.out;have Jn:=Bk.out;obtain ⟨Hj,Hk,Hl,Hm,Hn,Ho,Hp,Hq,Hr,Hs,Ht,Hu,Hv,Hw⟩:=cf7_ Ac))
     refine bodyPost_ret (results_ct rfl _ _ Ba 43 #[.int .i64 Ax,.int .i64 Ay,.int .i64 Az,.slice Ao15 Al.length co15,.slice Ao16 Am.length co16,.slice Ao17 An.length co17,.slice Ao49 Fl.length co49] (0,0) _ rfl (bp_ Ac) Try.underlying43 rfl (by kernel_rfl)) rfl ?_
     exact ⟨_,_,_,_,_,er_q,by exact Kd.R_mono (rF_ (Kd.R_types (Kd.R_types Af.out Ab.out (by decide)) Ac.out (by decide))) (fun _ hk=> trivial),by exact Kd.R_mono (rF_ (Kd.R_types (Kd.R_types Ag.out Ab.out (by decide)) Ac.out (by decide))) (fun _ hk=> trivial),by exact Kd.R_mono (rF_ (Kd.R_types (Kd.R_types Ah.out Ab.out (by decide)) Ac.out (by decide))) (fun _ hk=> trivial),by exact Kd.S_mono (sF_ (Kd.S_types (Kd.S_types Dp.out Ab.out (by decide)) Ac.out (by decide))) (fun _ hk=> hk.1.1.2),by exact Kd.S_mono (sF_ (Kd.S_types (Kd.S_types Ak.out Ab.out (by decide)) Ac.out (by decide))) (fun _ hk=> hk.1.1.2),bw_q HB⟩
 ·replace c23:=Bool.eq_false_iff.mpr c23;subst c23
  rw [if_neg (show ¬(false=true) by decide)] at H
  simp only [Option.some.injEq,Prod.mk.injEq] at H
  obtain ⟨rfl,rfl,rfl,rfl,rfl,rfl,rfl,rfl⟩:=H;have Jo:=Bc.out;have Jp:=Bb.out;have Jq:=Be.out;have Jr:=Bd.out;obtain ⟨Hx,Hy,Hz,Ia,Ib,Ic,Id,Ie,If,Ig,Ih,Ii,Ij,Ik⟩:=cf7_ Ab;have Js:=Bl.out;have Jt:=Bk.out;obtain ⟨Il,Im,In,Io,Ip,Iq,Ir,Is,It,Iu,Iv,Iw,Ix,Iy⟩:=cf7_ Ac
  go_wp2
  refine bodyPost_ret (results_ct rfl _ _ Ba 43 #[.int .i64 Ax,.int .i64 Ay,.int .i64 Az,.slice Ao15 Al.length co15,.slice Ao16 Am.length co16,.slice Ao17 An.length co17,.slice Ao18 Cl.length co18] (0,0) _ rfl (bp_ Ac) Try.underlying43 rfl (by kernel_rfl)) rfl ?_
  exact ⟨_,_,_,_,_,er_q,by exact Kd.R_mono (rF_ (Kd.R_types At.out Ac.out (by decide))) (fun _ hk=> trivial),by exact Kd.R_mono (rF_ (Kd.R_types Au.out Ac.out (by decide))) (fun _ hk=> trivial),by exact Kd.R_mono (rF_ (Kd.R_types Av.out Ac.out (by decide))) (fun _ hk=> trivial),by exact Kd.S_mono (sF_ (Kd.S_types Aw.out Ac.out (by decide))) (fun _ hk=> hk.1.2),by exact Kd.S_mono (sF_ (Kd.S_types Cq.out Ac.out (by decide))) (fun _ hk=> hk.1.2),bw_q HB⟩

/-! ### impl_in: function 81 -/
def impl_in.f (a0:Int) (a1:Int) (a2:Int):Option (Bool):=if a0≥a1 then (some (decide (a0≤a2))) else (some false)
set_option maxHeartbeats 8000000 in
set_option maxRecDepth 100000 in
theorem impl_in.calls (a0:Int) (a1:Int) (a2:Int) (r:Bool) (w:World) (h:impl_in.f a0 a1 a2=some r):
  Calls Try.prog 81 #[.int .i64 a0,.int .i64 a1,.int .i64 a2] w fun e w'=> e=.returned (.bool r)∧Drawn0 w w':=by
 have H:=h
 clear h;unfold impl_in.f at H
 by_cases c4:a0≥a1
 ·rw [if_pos c4] at H;have Aa:=decide_eq_true c4
  clear c4;obtain rfl:=Option.some.inj H
  go_enter Try.func81,Try.ntmps81
  go_wp2
  go_ret
  exact ⟨rs_q,dr_q⟩
 ·rw [if_neg c4] at H;have Aa:=decide_eq_false c4
  clear c4;obtain rfl:=Option.some.inj H
  go_enter Try.func81,Try.ntmps81
  go_wp2
  go_ret
  exact ⟨rs_q,dr_q⟩

/-! ### impl_LinkOk: function 66 -/
def impl_LinkOk.f (a0:Int) (a:Int) (b:Int) (c:Int) (d:Int):Option (Bool):=(impl_in.f a0 1 6).bind fun e=> (if e=true then ((impl_in.f a 1 a0).bind fun g=> (if g=true then ((impl_in.f b 1 a0).bind fun h=> (if h=true then (if a<b then ((impl_in.f c 1 1000).bind fun i=> (if i=true then ((impl_in.f d 0 2).bind fun j=> (some j)) else (some false))) else (some false)) else (some false))) else (some false))) else (some false))
set_option maxHeartbeats 8000000 in
set_option maxRecDepth 100000 in
theorem impl_LinkOk.calls (a0:Int) (Aa:Int) (Ab:Int) (Ad:Int) (Ae:Int) (r:Bool) (w:World) (h:impl_LinkOk.f a0 Aa Ab Ad Ae=some r):
  Calls Try.prog 66 #[.int .i64 a0,.agg #[.int .i64 Aa,.int .i64 Ab,.int .i64 Ad,.int .i64 Ae]] w fun e w'=> e=.returned (.bool r)∧Below w.heap.size w w':=by
 have hu93:=Try.underlying93;have HB:=ak (Below.refl w.heap.size w);have H:=h
 clear h;unfold impl_LinkOk.f at H;replace H:=bsi H;obtain ⟨Ah,A30,H⟩:=H
 (try dsimp only at H)
 have A3:=ak A30;clear A30
 by_cases c4:Ah=true
 ·subst c4;rw [if_pos rfl] at H;replace H:=bsi H;obtain ⟨Ai,A50,H⟩:=H
  (try dsimp only at H)
  have A5:=ak A50;clear A50
  by_cases c6:Ai=true
  ·subst c6;rw [if_pos rfl] at H;replace H:=bsi H;obtain ⟨Aj,A70,H⟩:=H
   (try dsimp only at H)
   have A7:=ak A70;clear A70
   by_cases c8:Aj=true
   ·subst c8;rw [if_pos rfl] at H
    by_cases c9:Aa<Ab
    ·rw [if_pos c9] at H;have Ak:=decide_eq_true c9
     clear c9;replace H:=bsi H;obtain ⟨Al,A100,H⟩:=H
     (try dsimp only at H)
     have A10:=ak A100;clear A100
     by_cases c11:Al=true
     ·subst c11;rw [if_pos rfl] at H;replace H:=bsi H;obtain ⟨Am,A120,H⟩:=H
      (try dsimp only at H)
      have A12:=ak A120;clear A120;obtain rfl:=Option.some.inj H
      go_enter Try.func66,Try.ntmps66
      go_wp2_with (first | ((with_reducible refine gate_dst (N:=3) rfl ?_);refine box_q 3 #[.int .i64 Aa,.int .i64 Ab,.int .i64 Ad,.int .i64 Ae] 93 ?_;intro Af hg w13 hbox hb;have Ac:=ak (hbox);have Ag:=gs_ HB hg;replace HB:=hB_ HB hb;clear hb hbox hg) | ((with_reducible refine gC_ 81 ?_);refine gL_ 6 Try.func81 #[.int .i64 a0,.int .i64 1,.int .i64 6] ?_;(with_reducible refine (impl_in.calls a0 1 6 true _ A3.out).mono ?_);rintro e w' ⟨rfl,⟨nd,rfl⟩⟩;refine ⟨_,rfl,?_⟩;obtain ⟨An,Ao,Ap,Aq,Ar,As,At,Au⟩:=cf4_ Ac) | (go_at_call 81;(with_reducible refine (impl_in.calls Aa 1 a0 true _ A5.out).mono ?_);rintro e w' ⟨rfl,⟨nd,rfl⟩⟩) | (go_at_call 81;(with_reducible refine (impl_in.calls Ab 1 a0 true _ A7.out).mono ?_);rintro e w' ⟨rfl,⟨nd,rfl⟩⟩) | (go_at_call 81;(with_reducible refine (impl_in.calls Ad 1 1000 true _ A10.out).mono ?_);rintro e w' ⟨rfl,⟨nd,rfl⟩⟩) | (go_at_call 81;(with_reducible refine (impl_in.calls Ae 0 2 Am _ A12.out).mono ?_);rintro e w' ⟨rfl,⟨nd,rfl⟩⟩))
      go_ret
      exact ⟨er_q,bw_q HB⟩
     ·replace c11:=Bool.eq_false_iff.mpr c11;subst c11
      rw [if_neg (show ¬(false=true) by decide)] at H
      obtain rfl:=Option.some.inj H
      go_enter Try.func66,Try.ntmps66
      go_wp2_with (first | ((with_reducible refine gate_dst (N:=3) rfl ?_);refine box_q 3 #[.int .i64 Aa,.int .i64 Ab,.int .i64 Ad,.int .i64 Ae] 93 ?_;intro Af hg w15 hbox hb;have Ac:=ak (hbox);have Ag:=gs_ HB hg;replace HB:=hB_ HB hb;clear hb hbox hg) | ((with_reducible refine gC_ 81 ?_);refine gL_ 6 Try.func81 #[.int .i64 a0,.int .i64 1,.int .i64 6] ?_;(with_reducible refine (impl_in.calls a0 1 6 true _ A3.out).mono ?_);rintro e w' ⟨rfl,⟨nd,rfl⟩⟩;refine ⟨_,rfl,?_⟩;obtain ⟨Av,Aw,Ax,Ay,Az,Ba,Bb,Bc⟩:=cf4_ Ac) | (go_at_call 81;(with_reducible refine (impl_in.calls Aa 1 a0 true _ A5.out).mono ?_);rintro e w' ⟨rfl,⟨nd,rfl⟩⟩) | (go_at_call 81;(with_reducible refine (impl_in.calls Ab 1 a0 true _ A7.out).mono ?_);rintro e w' ⟨rfl,⟨nd,rfl⟩⟩) | (go_at_call 81;(with_reducible refine (impl_in.calls Ad 1 1000 false _ A10.out).mono ?_);rintro e w' ⟨rfl,⟨nd,rfl⟩⟩))
      go_ret
      exact ⟨er_q,bw_q HB⟩
    ·rw [if_neg c9] at H;have Ak:=decide_eq_false c9
     clear c9;obtain rfl:=Option.some.inj H
     go_enter Try.func66,Try.ntmps66
     go_wp2_with (first | ((with_reducible refine gate_dst (N:=3) rfl ?_);refine box_q 3 #[.int .i64 Aa,.int .i64 Ab,.int .i64 Ad,.int .i64 Ae] 93 ?_;intro Af hg w17 hbox hb;have Ac:=ak (hbox);have Ag:=gs_ HB hg;replace HB:=hB_ HB hb;clear hb hbox hg) | ((with_reducible refine gC_ 81 ?_);refine gL_ 6 Try.func81 #[.int .i64 a0,.int .i64 1,.int .i64 6] ?_;(with_reducible refine (impl_in.calls a0 1 6 true _ A3.out).mono ?_);rintro e w' ⟨rfl,⟨nd,rfl⟩⟩;refine ⟨_,rfl,?_⟩;obtain ⟨Bd,Be,Bf,Bg,Bh,Bi,Bj,Bk⟩:=cf4_ Ac) | (go_at_call 81;(with_reducible refine (impl_in.calls Aa 1 a0 true _ A5.out).mono ?_);rintro e w' ⟨rfl,⟨nd,rfl⟩⟩) | (go_at_call 81;(with_reducible refine (impl_in.calls Ab 1 a0 true _ A7.out).mono ?_);rintro e w' ⟨rfl,⟨nd,rfl⟩⟩))
     go_ret
     exact ⟨er_q,bw_q HB⟩
   ·replace c8:=Bool.eq_false_iff.mpr c8;subst c8
    rw [if_neg (show ¬(false=true) by decide)] at H
    obtain rfl:=Option.some.inj H
    go_enter Try.func66,Try.ntmps66
    go_wp2_with (first | ((with_reducible refine gate_dst (N:=3) rfl ?_);refine box_q 3 #[.int .i64 Aa,.int .i64 Ab,.int .i64 Ad,.int .i64 Ae] 93 ?_;intro Af hg w19 hbox hb;have Ac:=ak (hbox);have Ag:=gs_ HB hg;replace HB:=hB_ HB hb;clear hb hbox hg) | ((with_reducible refine gC_ 81 ?_);refine gL_ 6 Try.func81 #[.int .i64 a0,.int .i64 1,.int .i64 6] ?_;(with_reducible refine (impl_in.calls a0 1 6 true _ A3.out).mono ?_);rintro e w' ⟨rfl,⟨nd,rfl⟩⟩;refine ⟨_,rfl,?_⟩;obtain ⟨Bl,Bm,Bn,Bo,Bp,Bq,Br,Bs⟩:=cf4_ Ac) | (go_at_call 81;(with_reducible refine (impl_in.calls Aa 1 a0 true _ A5.out).mono ?_);rintro e w' ⟨rfl,⟨nd,rfl⟩⟩) | (go_at_call 81;(with_reducible refine (impl_in.calls Ab 1 a0 false _ A7.out).mono ?_);rintro e w' ⟨rfl,⟨nd,rfl⟩⟩))
    go_ret
    exact ⟨er_q,bw_q HB⟩
  ·replace c6:=Bool.eq_false_iff.mpr c6;subst c6
   rw [if_neg (show ¬(false=true) by decide)] at H
   obtain rfl:=Option.some.inj H
   go_enter Try.func66,Try.ntmps66
   go_wp2_with (first | ((with_reducible refine gate_dst (N:=3) rfl ?_);refine box_q 3 #[.int .i64 Aa,.int .i64 Ab,.int .i64 Ad,.int .i64 Ae] 93 ?_;intro Af hg w21 hbox hb;have Ac:=ak (hbox);have Ag:=gs_ HB hg;replace HB:=hB_ HB hb;clear hb hbox hg) | ((with_reducible refine gC_ 81 ?_);refine gL_ 6 Try.func81 #[.int .i64 a0,.int .i64 1,.int .i64 6] ?_;(with_reducible refine (impl_in.calls a0 1 6 true _ A3.out).mono ?_);rintro e w' ⟨rfl,⟨nd,rfl⟩⟩;refine ⟨_,rfl,?_⟩;obtain ⟨Bt,Bu,Bv,Bw,Bx,By,Bz,Ca⟩:=cf4_ Ac) | (go_at_call 81;(with_reducible refine (impl_in.calls Aa 1 a0 false _ A5.out).mono ?_);rintro e w' ⟨rfl,⟨nd,rfl⟩⟩))
   go_ret
   exact ⟨er_q,bw_q HB⟩
 ·replace c4:=Bool.eq_false_iff.mpr c4;subst c4
  rw [if_neg (show ¬(false=true) by decide)] at H
  obtain rfl:=Option.some.inj H
  go_enter Try.func66,Try.ntmps66
  go_wp2_with (first | ((with_reducible refine gate_dst (N:=3) rfl ?_);refine box_q 3 #[.int .i64 Aa,.int .i64 Ab,.int .i64 Ad,.int .i64 Ae] 93 ?_;intro Af hg w23 hbox hb;have Ac:=ak (hbox);have Ag:=gs_ HB hg;replace HB:=hB_ HB hb;clear hb hbox hg) | ((with_reducible refine gC_ 81 ?_);refine gL_ 6 Try.func81 #[.int .i64 a0,.int .i64 1,.int .i64 6] ?_;(with_reducible refine (impl_in.calls a0 1 6 false _ A3.out).mono ?_);rintro e w' ⟨rfl,⟨nd,rfl⟩⟩;refine ⟨_,rfl,?_⟩))
  go_ret
  exact ⟨er_q,bw_q HB⟩

/-! ### impl_ahead: function 82 -/
def impl_ahead.f (a:Int) (b:Int) (h:Int) (e:Int) (c:Int) (d:Int) (i:Int) (g:Int):Option (Bool):=if a=c then (if b=d then (some (decide (e<g))) else (some (decide (b<d)))) else (some (decide (a<c)))
set_option maxHeartbeats 8000000 in
set_option maxRecDepth 100000 in
theorem impl_ahead.calls (Ag:Int) (Ah:Int) (Ak:Int) (Al:Int) (Ai:Int) (Aj:Int) (Am:Int) (An:Int) (r:Bool) (w:World) (h:impl_ahead.f Ag Ah Ak Al Ai Aj Am An=some r):
  Calls Try.prog 82 #[.agg #[.int .i64 Ag,.int .i64 Ah,.int .i64 Ak,.int .i64 Al],.agg #[.int .i64 Ai,.int .i64 Aj,.int .i64 Am,.int .i64 An]] w fun e w'=> e=.returned (.bool r)∧Below w.heap.size w w':=by
 have hu93:=Try.underlying93;have HB:=ak (Below.refl w.heap.size w);have H:=h
 clear h;unfold impl_ahead.f at H;have Aq:=ak H;clear H
 go_enter Try.func82,Try.ntmps82
 go_upto_if 5 with (first | ((with_reducible refine gate_dst (N:=2) rfl ?_);refine box_q 2 #[.int .i64 Ag,.int .i64 Ah,.int .i64 Ak,.int .i64 Al] 93 ?_;intro Dd hg w4 hbox hb;have Aa:=ak (hbox);have De:=gs_ HB hg;replace HB:=hB_ HB hb;clear hb hbox hg) | ((with_reducible refine gate_dst (N:=3) rfl ?_);refine box_q 3 #[.int .i64 Ai,.int .i64 Aj,.int .i64 Am,.int .i64 An] 93 ?_;intro Df hg w5 hbox hb;have Ad:=ak (hbox);have Dg:=gs_ HB hg;replace HB:=hB_ HB hb;have Ab:=nb_ Aa hg;have Ac:=nB_ Aa hg;replace Aa:=bb_ Aa hb;clear hb hbox hg;have Dn:=Ab.out;have Do:=Ac.out;obtain ⟨Cn,Co,Cp,Cq,Cr,Cs,Ct,Cu⟩:=cf4_ Aa;obtain ⟨Cv,Cw,Cx,Cy,Cz,Da,Db,Dc⟩:=cf4_ Ad))
 have H:=Aq.out;clear Aq
 by_cases c9:Ag=Ai
 ·rw [if_pos c9] at H;have Ae:=bqi c9;have Af:=bnf c9;clear c9
  (first | rw [Ae] | rw [Af] | (simp only [i64_w,i32_w];first | rw [Ae] | rw [Af]) | skip)
  by_cases c10:Ah=Aj
  ·rw [if_pos c10] at H;have Ao:=bqi c10;have Ap:=bnf c10
   clear c10;obtain rfl:=Option.some.inj H;have Dh:=Ab.out;have Di:=Ac.out;obtain ⟨Ar,As,At,Au,Av,Aw,Ax,Ay⟩:=cf4_ Aa;obtain ⟨Az,Ba,Bb,Bc,Bd,Be,Bf,Bg⟩:=cf4_ Ad
   go_wp2
   go_ret
   exact ⟨er_q,bw_q HB⟩
  ·rw [if_neg c10] at H;have Ao:=bqf c10;have Ap:=bni c10;obtain rfl:=Option.some.inj H;have Dj:=Ab.out;have Dk:=Ac.out;obtain ⟨Bh,Bi,Bj,Bk,Bl,Bm,Bn,Bo⟩:=cf4_ Aa;obtain ⟨Bp,Bq,Br,Bs,Bt,Bu,Bv,Bw⟩:=cf4_ Ad
   go_wp2
   go_ret
   exact ⟨er_q,bw_q HB⟩
 ·rw [if_neg c9] at H;have Ae:=bqf c9;have Af:=bni c9
  (first | rw [Ae] | rw [Af] | (simp only [i64_w,i32_w];first | rw [Ae] | rw [Af]) | skip)
  obtain rfl:=Option.some.inj H;have Dl:=Ab.out;have Dm:=Ac.out;obtain ⟨Bx,By,Bz,Ca,Cb,Cc,Cd,Ce⟩:=cf4_ Aa;obtain ⟨Cf,Cg,Ch,Ci,Cj,Ck,Cl,Cm⟩:=cf4_ Ad
  go_wp2
  go_ret
  exact ⟨er_q,bw_q HB⟩

/-! ### impl_less: function 83 -/
def impl_less.f (c:Int) (a:Int) (e:Int) (g:Bool) (d:Int) (b:Int) (h:Int) (i:Bool):Option (Bool):=if a<b then (some true) else (if a=b then (some (decide (c<d))) else (some false))
set_option maxHeartbeats 8000000 in
set_option maxRecDepth 100000 in
theorem impl_less.calls (Ag:Int) (Ad:Int) (Ah:Int) (Ai:Bool) (Aj:Int) (Ae:Int) (Ak:Int) (Al:Bool) (r:Bool) (w:World) (h:impl_less.f Ag Ad Ah Ai Aj Ae Ak Al=some r):
  Calls Try.prog 83 #[.agg #[.int .i64 Ag,.int .i64 Ad,.int .i64 Ah,.bool Ai],.agg #[.int .i64 Aj,.int .i64 Ae,.int .i64 Ak,.bool Al]] w fun e w'=> e=.returned (.bool r)∧Below w.heap.size w w':=by
 have hu102:=Try.underlying102;have HB:=ak (Below.refl w.heap.size w);have H:=h
 clear h;unfold impl_less.f at H
 by_cases c3:Ad<Ae
 ·rw [if_pos c3] at H;have Aq:=decide_eq_true c3
  clear c3;obtain rfl:=Option.some.inj H
  go_enter Try.func83,Try.ntmps83
  go_wp2_with (first | ((with_reducible refine gate_dst (N:=2) rfl ?_);refine box_q 2 #[.int .i64 Ag,.int .i64 Ad,.int .i64 Ah,.bool Ai] 102 ?_;intro Am hg w4 hbox hb;have Aa:=ak (hbox);have An:=gs_ HB hg;replace HB:=hB_ HB hb;clear hb hbox hg) | ((with_reducible refine gate_dst (N:=3) rfl ?_);refine box_q 3 #[.int .i64 Aj,.int .i64 Ae,.int .i64 Ak,.bool Al] 102 ?_;intro Ao hg w5 hbox hb;have Af:=ak (hbox);have Ap:=gs_ HB hg;replace HB:=hB_ HB hb;have Ab:=nb_ Aa hg;have Ac:=nB_ Aa hg;replace Aa:=bb_ Aa hb;clear hb hbox hg;have Ct:=Ab.out;have Cu:=Ac.out;obtain ⟨Bz,Ca,Cb,Cc,Cd,Ce,Cf,Cg⟩:=cf4_ Aa;obtain ⟨Ch,Ci,Cj,Ck,Cl,Cm,Cn,Co⟩:=cf4_ Af))
  go_ret
  exact ⟨er_q,bw_q HB⟩
 ·rw [if_neg c3] at H;have Aq:=decide_eq_false c3;clear c3
  by_cases c9:Ad=Ae
  ·rw [if_pos c9] at H;have Ar:=bqi c9;have As:=bnf c9
   clear c9;obtain rfl:=Option.some.inj H
   go_enter Try.func83,Try.ntmps83
   go_wp2_with (first | ((with_reducible refine gate_dst (N:=2) rfl ?_);refine box_q 2 #[.int .i64 Ag,.int .i64 Ad,.int .i64 Ah,.bool Ai] 102 ?_;intro Am hg w10 hbox hb;have Aa:=ak (hbox);have An:=gs_ HB hg;replace HB:=hB_ HB hb;clear hb hbox hg) | ((with_reducible refine gate_dst (N:=3) rfl ?_);refine box_q 3 #[.int .i64 Aj,.int .i64 Ae,.int .i64 Ak,.bool Al] 102 ?_;intro Ao hg w11 hbox hb;have Af:=ak (hbox);have Ap:=gs_ HB hg;replace HB:=hB_ HB hb;have Ab:=nb_ Aa hg;have Ac:=nB_ Aa hg;replace Aa:=bb_ Aa hb;clear hb hbox hg;have Cp:=Ab.out;have Cq:=Ac.out;obtain ⟨At,Au,Av,Aw,Ax,Ay,Az,Ba⟩:=cf4_ Aa;obtain ⟨Bb,Bc,Bd,Be,Bf,Bg,Bh,Bi⟩:=cf4_ Af))
   go_ret
   exact ⟨er_q,bw_q HB⟩
  ·rw [if_neg c9] at H;have Ar:=bqf c9;have As:=bni c9;obtain rfl:=Option.some.inj H
   go_enter Try.func83,Try.ntmps83
   go_wp2_with (first | ((with_reducible refine gate_dst (N:=2) rfl ?_);refine box_q 2 #[.int .i64 Ag,.int .i64 Ad,.int .i64 Ah,.bool Ai] 102 ?_;intro Am hg w15 hbox hb;have Aa:=ak (hbox);have An:=gs_ HB hg;replace HB:=hB_ HB hb;clear hb hbox hg) | ((with_reducible refine gate_dst (N:=3) rfl ?_);refine box_q 3 #[.int .i64 Aj,.int .i64 Ae,.int .i64 Ak,.bool Al] 102 ?_;intro Ao hg w16 hbox hb;have Af:=ak (hbox);have Ap:=gs_ HB hg;replace HB:=hB_ HB hb;have Ab:=nb_ Aa hg;have Ac:=nB_ Aa hg;replace Aa:=bb_ Aa hb;clear hb hbox hg;have Cr:=Ab.out;have Cs:=Ac.out;obtain ⟨Bj,Bk,Bl,Bm,Bn,Bo,Bp,Bq⟩:=cf4_ Aa;obtain ⟨Br,Bs,Bt,Bu,Bv,Bw,Bx,By⟩:=cf4_ Af))
   go_ret
   exact ⟨er_q,bw_q HB⟩

end Go.Proofs.Ythjmdiggglkeaaa.Q
