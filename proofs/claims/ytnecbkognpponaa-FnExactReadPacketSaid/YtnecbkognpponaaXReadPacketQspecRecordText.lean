import Derived.Test.YtnecbkognpponaaXReadPacketQx45
/- The contract of a Go function. -/


namespace Go.Proofs.Ytnecbkognpponaa.Q
open Go.RowKit Go.Proofs.YtnecbkognpponaaW.PrintWords Go.Proofs.YtnecbkognpponaaW.PrintLast Go.Proofs.YtnecbkognpponaaW.PrintMore
attribute [local go_sem] max2_int min2_int max_two min_two max_three min_three max_four min_four   -- for this text's walks alone
set_option linter.unusedVariables false
set_option linter.unusedSimpArgs false

/-! ### spec_l04Near: function 68 -/
def spec_l04Near.l0 : Nat → Int → Int → Int → Int → Int → Int → List (S63) → Int → Bool → Option (Bool)
 | 0, _, _, _, _, _, _, _, _, _ => none
 | k + 1, c, d, e, b, g, h, a, i, j => if c < (a.length : Int) then (if 0 ≤ c then ((spec_l01In.f ((rd_T63 a c).f0) 1 6).bind fun l => (if l = true then (if ((rd_T63 a c).f0) = b then (some false) else ((spec_l01In.f ((rd_T63 a c).f1) 1 1000).bind fun m => (if m = true then (if c > 0 then (if 0 ≤ (wrap64 (c - 1)) then (if (wrap64 (c - 1)) < (a.length : Int) then (if ((rd_T63 a (wrap64 (c - 1))).f0) ≥ ((rd_T63 a c).f0) then (some false) else (spec_l04Near.l0 k (wrap64 (c + 1)) d e b g h a i j)) else (none)) else (none)) else (spec_l04Near.l0 k (wrap64 (c + 1)) d e b g h a i j)) else (some false)))) else (some false))) else (none)) else (some true)
def spec_l04Near.f (k : Nat) (a : Int) (b : Int) (c : Int) (d : Int) (e : Int) (g : List (S63)) (h : Int) (i : Bool) : Option (Bool) := spec_l04Near.l0 k 0 a b c d e g h i
theorem spec_l04Near.mono_l : ∀ k, (∀ y0 y1 y2 y3 y4 y5 y6 y7 y8, LeO (spec_l04Near.l0 k y0 y1 y2 y3 y4 y5 y6 y7 y8) (spec_l04Near.l0 (k + 1) y0 y1 y2 y3 y4 y5 y6 y7 y8))
 | 0 => fun _ _ _ _ _ _ _ _ _ r h => by simp [spec_l04Near.l0] at h
 | k + 1 => by
  have ih0 := spec_l04Near.mono_l k
  ·intro y0 y1 y2 y3 y4 y5 y6 y7 y8
   unfold spec_l04Near.l0
   with_reducible repeat' (first | apply ih0 | exact LeO.refl _ | exact LeO.none _ | refine LeO.ite ?_ ?_ | refine LeO.bind ?_ (fun _ => ?_))
theorem spec_l04Near.mono : ∀ a0 a1 a2 a3 a4 a5 a6 a7 k, LeO (spec_l04Near.f k a0 a1 a2 a3 a4 a5 a6 a7) (spec_l04Near.f (k + 1) a0 a1 a2 a3 a4 a5 a6 a7) := by
 intro a0 a1 a2 a3 a4 a5 a6 a7 k
 have ih0 := spec_l04Near.mono_l k
 unfold spec_l04Near.f
 with_reducible repeat' (first | apply ih0 | exact LeO.refl _ | exact LeO.none _ | refine LeO.ite ?_ ?_ | refine LeO.bind ?_ (fun _ => ?_))
def spec_l04Near.T5 : Bool × List (List Nat × List Nat) := (true, [([], []), ([0], [0]), ([1], [1]), ([2], [2]), ([3, 2], [3]), ([4], [4]), ([5, 4], [4, 5]), ([4], [4]), ([7, 4], [4, 7]), ([6, 8, 4], [4, 6, 8]), ([4, 9], [4, 9]), ([10, 4], [10]), ([11], [11]), ([12, 11], [11, 12]), ([13, 11, 11], [11, 13]), ([14, 11], [11, 14]), ([11, 15], [11, 15]), ([16, 14], [16]), ([17], [17]), ([18, 17], [17, 18]), ([19, 17, 17], [17, 19]), ([20], [20]), ([21, 20], [20, 21]), ([20], [20]), ([23, 20], [20, 23]), ([22, 24, 20], [20, 22, 24]), ([25, 20], [20, 25]), ([26, 20], [20, 26]), ([20], [20]), ([28, 20], [20, 28]), ([27, 29, 20], [20, 27, 29]), ([20, 30, 17], [17, 20, 30]), ([17, 31], [17, 31])])
def spec_l04Near.B5 : List Nat := [0, 1, 3, 7, 15, 31, 63, 31, 159, 511, 1023, 2047, 4095, 8191, 16383, 32767, 65535, 131071, 262143, 524287, 1048575, 2097151, 4194303, 2097151, 10485759, 33554431, 67108863, 134217727, 2097151, 270532607, 1073741823, 2147483647, 4294967295]
theorem spec_l04Near.tab5 : rtab .any (opsOf Try.f68 5) = spec_l04Near.T5 := by kernel_rfl
theorem spec_l04Near.bits5 : waitsOk spec_l04Near.T5.2 spec_l04Near.B5 = true := by kernel_rfl
set_option maxHeartbeats 8000000 in
set_option maxRecDepth 100000 in
theorem spec_l04Near.calls (k : Nat) (Ai : Int) (Aj : Int) (Af : Int) (Ak : Int) (Al : Int) (Ay : Option Addr) (Ao : Nat) (Aa : List (S63)) (Am : Int) (An : Bool) (r : Bool) (w : World) (hr0_5 : Kd.C k63 w Ay Aa.length Aa) (hc0_5 : Aa.length ≤ Ao) (h : spec_l04Near.f k Ai Aj Af Ak Al Aa Am An = some r) :
  Calls Try.prog 68 #[.agg #[.int .i64 Ai, .int .i64 Aj, .int .i64 Af, .int .i64 Ak, .int .i64 Al, .slice Ay Aa.length Ao, .int .i64 Am, .bool An]] w fun e w' => e = .returned (.bool r) ∧ Below w.heap.size w w' := by
 have hu24 := Try.underlying24; have hu63 := Try.underlying63; have Ba := ak hr0_5; have Cq := ak hc0_5; clear hr0_5 hc0_5; have HB := ak (Below.refl w.heap.size w); have H := h
 clear h; unfold spec_l04Near.f at H; have H' := ak H; clear H
 go_enter Try.func68, Try.ntmps68
 go_wp2_with (first | ((with_reducible refine gate_dst (N := 1) rfl ?_); refine box_q 1 #[.int .i64 Ai, .int .i64 Aj, .int .i64 Af, .int .i64 Ak, .int .i64 Al, .slice Ay Aa.length Ao, .int .i64 Am, .bool An] 24 ?_; intro Ad hg w2 hbox hb; have Ac := ak (hbox); have Cr := gsz w (below_size (bw_q HB)) hg; have Cs := gsz w (below_size (bw_q HB)) hg; replace HB := ak (below_step (bw_q HB) hb); clear hb hbox hg))
 go_loopg [3] k (fun kq v3 w' => ∃ (Ab : Int), v3 = .int .i64 Ab ∧ Aside0 (spec_l04Near.l0 kq Ab Ai Aj Af Ak Al Aa Am An = some r) ∧ Aside0 (kq ≤ k) ∧ Aside0 (w'.heap[Ad]? = some (.cells #[.int .i64 Ai, .int .i64 Aj, .int .i64 Af, .int .i64 Ak, .int .i64 Al, (.slice Ay Aa.length Ao), .int .i64 Am, .bool An] 24 (0, 0))) ∧ Aside0 (Below w.heap.size w w'))
 case atStart => exact ⟨(0), rs_q, H', ⟨Nat.le_refl _⟩, ⟨bk_q Ac⟩, ⟨bw_q HB⟩⟩
 case round =>
  clear H'; (try clear p2); obtain ⟨Ab, rfl, HA, Bb, Ac, HB⟩ := hrel
  cases gk with
  | zero => exact absurd HA.out (by simp [spec_l04Near.l0])
  | succ k1 =>
   have H := HA.out; clear HA
   simp only [spec_l04Near.l0] at H
   by_cases c3 : Ab < (Aa.length : Int)
   ·rw [if_pos c3] at H
    have Bf : decide (Ab < (Aa.length : Int)) = true := decide_eq_true c3
    clear c3
    by_cases c4 : 0 ≤ Ab
    ·rw [if_pos c4] at H
     have Cz : decide (0 ≤ Ab) = true := decide_eq_true c4
     clear c4; replace H := bsi H; obtain ⟨Bc, A50, H⟩ := H
     (try dsimp only at H)
     have A5 := ak A50; clear A50; have HZ28 := ak H; clear H; obtain ⟨Ca, Cb, Cc, Cd, Ce, Cf, Cg, Ch, Ci, Cj, Ck, Cl, Cm, Cn, Co, Cp⟩ := cf8_ Ac
     have p171 : 0 ≤ (Ab : Int) := of_decide_eq_true as_q
     have q171 : Ab < (Aa.length : Int) := of_decide_eq_true as_q
     obtain ⟨Ah, e171, Aw, Ax⟩ := at_T63 Ba.out Ab p171 q171
     cases e171
     replace Aw := hbc HB Aw; replace Ax := hbc HB Ax; replace p171 := eq_true p171; replace q171 := eq_true q171
     try go_wp2_with (first | ((with_reducible refine gate_dst (N := 4) rfl ?_); refine box_q 4 #[.int .i64 0, .int .i64 0] 63 ?_; intro Ae hg w9 hbox hb; have Ag := ak (hbox); have Ct := gsz w (below_size (bw_q HB)) hg; have Cu := gsz w (below_size (bw_q HB)) hg; replace HB := ak (below_step (bw_q HB) hb); have Ap := ak ((by rw [hg]; exact Nat.ne_of_lt (blk_lt (g := Ad) (o := .cells #[.int .i64 Ai, .int .i64 Aj, .int .i64 Af, .int .i64 Ak, .int .i64 Al, .slice (some Ah) Aa.length Ao, .int .i64 Am, .bool An] 24 (0, 0)) (bk_q Ac)) : Ad ≠ Ae)); have Az := ak ((by rw [hg]; exact Nat.ne_of_gt (blk_lt (g := Ad) (o := .cells #[.int .i64 Ai, .int .i64 Aj, .int .i64 Af, .int .i64 Ak, .int .i64 Al, .slice (some Ah) Aa.length Ao, .int .i64 Am, .bool An] 24 (0, 0)) (bk_q Ac)) : Ae ≠ Ad)); replace Ac := ak (blk_below (g := Ad) (bk_q Ac) hb); clear hb hbox hg; have Cv := Az.out; have Cw := Ap.out; obtain ⟨Bg, Bh, Bi, Bj⟩ := cf2_ Ag))
     have n0_ : Aside0 (((w9.setCell ⟨Ae, 0, none⟩ (.int .i64 ((rd_T63 Aa Ab).f0))).setCell ⟨Ae, 1, none⟩ (.int .i64 ((rd_T63 Aa Ab).f1))).heap[Ad]? = some (.cells #[.int .i64 Ai, .int .i64 Aj, .int .i64 Af, .int .i64 Ak, .int .i64 Al, .slice (some Ah) Aa.length Ao, .int .i64 Am, .bool An] 24 (0, 0))) := ⟨by refine bz_ ?_; refine blk_far ?_ Ap.out _; refine bz_ ?_; refine blk_far ?_ Ap.out _; refine bz_ ?_; exact Ac.out⟩
     have n1_ : Aside0 (((w9.setCell ⟨Ae, 0, none⟩ (.int .i64 ((rd_T63 Aa Ab).f0))).setCell ⟨Ae, 1, none⟩ (.int .i64 ((rd_T63 Aa Ab).f1))).heap[Ae]? = some (.cells #[.int .i64 ((rd_T63 Aa Ab).f0), .int .i64 ((rd_T63 Aa Ab).f1)] 63 (0, 0))) := ⟨by refine bz_ ?_; refine blk_put (cs := #[.int .i64 ((rd_T63 Aa Ab).f0), .int .i64 0]) ?_ 1 _ rfl; refine bz_ ?_; refine blk_put (cs := #[.int .i64 0, .int .i64 0]) ?_ 0 _ rfl; refine bz_ ?_; exact Ag.out⟩
     have n2_ : Aside0 (Below w.heap.size w ((w9.setCell ⟨Ae, 0, none⟩ (.int .i64 ((rd_T63 Aa Ab).f0))).setCell ⟨Ae, 1, none⟩ (.int .i64 ((rd_T63 Aa Ab).f1)))) := ⟨bw_q HB⟩
     (try clear Ac); (try clear Ag); (try clear HB)
     generalize ((w9.setCell ⟨Ae, 0, none⟩ (.int .i64 ((rd_T63 Aa Ab).f0))).setCell ⟨Ae, 1, none⟩ (.int .i64 ((rd_T63 Aa Ab).f1))) = w12 at n0_ n1_ n2_ ⊢
     have Ac := n0_; have Ag := n1_; have HB := n2_; clear n0_ n1_ n2_; replace Ac := ak (blk_drew Ac.out); replace Ag := ak (blk_drew Ag.out); replace HB := ak (below_drew1 HB.out)
     refine start_ (n := 33) (S := fun w' => w'.cell? ⟨Ae, 0, none⟩ = some (.int .i64 ((rd_T63 Aa Ab).f0)) ∧ w'.cell? ⟨Ae, 1, none⟩ = some (.int .i64 ((rd_T63 Aa Ab).f1))) (ds := []) (bL 33 0) (by kernel_rfl) rfl rfl (cz2_ Ag) (fun hHeld => ?_); refine with_tabW spec_l04Near.tab5 spec_l04Near.bits5 (fun HT_ HW_ => ?_)
     generalize w12.drew = w13 at Ac Ag HB hHeld ⊢
     refine pq_ 0 17 (bL 33 1) HT_.out rfl rfl ?_
     refine take_ (i := 1) (N := some 18) (v := ?_) (a' := ?_) (bL 33 3) rfl rfl (take_ofW HT_.out HW_.out (by kernel_rfl)) (fun _ _ _ h => h) (Or.inl ⟨by rfl, ?_⟩) hHeld ?_ ?_; rotate_left; (rintro w' ⟨s0, s1⟩; go_simp; with_reducible rfl); rotate_left; (exact put_q)
     refine one_ (i := 2) (N := some 19) (bL 33 7) rfl rfl (one_of HT_.out (by kernel_rfl)) (by decide) (fun K hK => ?_)
     refine goes_ Try.func67 (by kernel_rfl) rfl #[.int .i64 ((rd_T63 Aa Ab).f0), .int .i64 1, .int .i64 6] (by rfl) rfl rfl mp_q ?_
     with_reducible refine (spec_l01In.calls ((rd_T63 Aa Ab).f0) 1 6 Bc _ A5.out).mono ?_
     rintro e w' ⟨rfl, ⟨nd, rfl⟩⟩
     refine ⟨_, rfl, ?_⟩
     refine hK.out _ _ (cz2_ Ag) (fun hHeld => ?_)
     clear hK K
     refine norm_ (a' := ?_) ?_ ?_; rotate_left; (show Act.put _ (some 19) _ = _; simp only [Act.put, List.setIfInBounds_toArray, List.set_cons_zero, List.set_cons_succ, i64_w, i32_w]; rfl)
     refine pq_ 3 20 (bL 33 15) HT_.out rfl rfl ?_
     refine pq_ 4 21 (bL 33 31) HT_.out rfl rfl ?_
     have H := HZ28.out; clear HZ28
     by_cases c6 : Bc = true
     ·subst c6; rw [if_pos rfl] at H; have HZ29 := ak H; clear H
      refine last_weaken (fun w' => w'.cell? ⟨Ae, 0, none⟩ = some (.int .i64 ((rd_T63 Aa Ab).f0)) ∧ w'.cell? ⟨Ae, 1, none⟩ = some (.int .i64 ((rd_T63 Aa Ab).f1)) ∧ w'.cell? ⟨Ad, 0, none⟩ = some (.int .i64 Ai) ∧ w'.cell? ⟨Ad, 1, none⟩ = some (.int .i64 Aj) ∧ w'.cell? ⟨Ad, 2, none⟩ = some (.int .i64 Af) ∧ w'.cell? ⟨Ad, 3, none⟩ = some (.int .i64 Ak) ∧ w'.cell? ⟨Ad, 4, none⟩ = some (.int .i64 Al) ∧ w'.cell? ⟨Ad, 5, none⟩ = some (.slice (some Ah) Aa.length Ao) ∧ w'.cell? ⟨Ad, 6, none⟩ = some (.int .i64 Am) ∧ w'.cell? ⟨Ad, 7, none⟩ = some (.bool An)) (fun w' h_ => ⟨h_.1, h_.2.1⟩) ⟨hHeld.1, hHeld.2, (by first | assumption | exact (blk_cell Ac.out 0).trans rfl), (by first | assumption | exact (blk_cell Ac.out 1).trans rfl), (by first | assumption | exact (blk_cell Ac.out 2).trans rfl), (by first | assumption | exact (blk_cell Ac.out 3).trans rfl), (by first | assumption | exact (blk_cell Ac.out 4).trans rfl), (by first | assumption | exact (blk_cell Ac.out 5).trans rfl), (by first | assumption | exact (blk_cell Ac.out 6).trans rfl), (by first | assumption | exact (blk_cell Ac.out 7).trans rfl)⟩ (fun hHeld => ?_)
      refine pq_ 5 22 (bL 33 63) HT_.out rfl rfl ?_
      refine pq_ 7 24 (bL 33 191) HT_.out rfl rfl ?_
      refine take_ (i := 6) (N := some 23) (v := ?_) (a' := ?_) (bL 33 255) rfl rfl (take_ofW HT_.out HW_.out (by kernel_rfl)) (fun _ _ _ h => h) (Or.inl ⟨by rfl, ?_⟩) hHeld ?_ ?_; rotate_left; (rintro w' ⟨s0, s1, s2, s3, s4, s5, s6, s7, s8, s9⟩; go_simp; with_reducible rfl); rotate_left; (exact put_q)
      refine take_ (i := 8) (N := some 25) (v := ?_) (a' := ?_) (bL 33 511) rfl rfl (take_ofW HT_.out HW_.out (by kernel_rfl)) (fun _ _ _ h => h) (Or.inl ⟨by rfl, ?_⟩) hHeld ?_ ?_; rotate_left; (rintro w' ⟨s0, s1, s2, s3, s4, s5, s6, s7, s8, s9⟩; go_simp; with_reducible rfl); rotate_left; (exact put_q)
      refine pq_ 9 26 (bL 33 1023) HT_.out rfl rfl ?_
      refine pq_ 10 27 (bL 33 2047) HT_.out rfl rfl ?_
      refine pq_ 11 28 (bL 33 4095) HT_.out rfl rfl ?_
      have H := HZ29.out; clear HZ29
      by_cases c7 : ((rd_T63 Aa Ab).f0) = Af
      ·rw [if_pos c7] at H
       have Au : (((rd_T63 Aa Ab).f0) == Af) = true := bqi c7
       have Av : (((rd_T63 Aa Ab).f0) != Af) = false := bnf c7
       (first | rw [Au] | rw [Av] | (simp only [i64_w, i32_w]; first | rw [Au] | rw [Av]) | skip)
       clear c7; obtain rfl := Option.some.inj H
       refine pu_ 12 29 (bL 33 8191) HT_.out rfl rfl ?_
       refine pu_ 13 30 (bL 33 16383) HT_.out rfl rfl ?_
       refine pu_ 14 31 (bL 33 32767) HT_.out rfl rfl ?_
       refine pu_ 15 32 (bL 33 65535) HT_.out rfl rfl ?_
       refine pq_ 16 33 (bL 33 131071) HT_.out rfl rfl ?_
       refine pq_ 17 34 (bL 33 262143) HT_.out rfl rfl ?_
       refine pu_ 18 35 (bL 33 524287) HT_.out rfl rfl ?_
       refine pu_ 19 36 (bL 33 1048575) HT_.out rfl rfl ?_
       refine pu_ 20 37 (bL 33 2097151) HT_.out rfl rfl ?_
       refine pu_ 21 38 (bL 33 4194303) HT_.out rfl rfl ?_
       refine pu_ 22 39 (bL 33 8388607) HT_.out rfl rfl ?_
       refine pu_ 23 40 (bL 33 16777215) HT_.out rfl rfl ?_
       refine pu_ 24 41 (bL 33 33554431) HT_.out rfl rfl ?_
       refine pu_ 25 42 (bL 33 67108863) HT_.out rfl rfl ?_
       refine pu_ 26 43 (bL 33 134217727) HT_.out rfl rfl ?_
       refine pu_ 27 44 (bL 33 268435455) HT_.out rfl rfl ?_
       refine pu_ 28 45 (bL 33 536870911) HT_.out rfl rfl ?_
       refine pu_ 29 46 (bL 33 1073741823) HT_.out rfl rfl ?_
       refine pu_ 30 47 (bL 33 2147483647) HT_.out rfl rfl ?_
       refine pu_ 31 48 (bL 33 4294967295) HT_.out rfl rfl ?_
       refine pq_ 32 49 (bL 33 8589934591) HT_.out rfl rfl ?_
       refine done_ (done_of HT_.out (by kernel_rfl)) ?_
       try go_wp2
       go_ret
       exact ⟨er_q, bw_q HB⟩
      ·rw [if_neg c7] at H
       have Au : (((rd_T63 Aa Ab).f0) == Af) = false := bqf c7
       have Av : (((rd_T63 Aa Ab).f0) != Af) = true := bni c7
       (first | rw [Au] | rw [Av] | (simp only [i64_w, i32_w]; first | rw [Au] | rw [Av]) | skip)
       replace H := bsi H; obtain ⟨Bd, A140, H⟩ := H
       (try dsimp only at H)
       have A14 := ak A140; clear A140; have HZ30 := ak H; clear H
       refine pq_ 12 29 (bL 33 8191) HT_.out rfl rfl ?_
       refine take_ (i := 13) (N := some 30) (v := ?_) (a' := ?_) (bL 33 16383) rfl rfl (take_ofW HT_.out HW_.out (by kernel_rfl)) (fun _ _ _ h => h) (Or.inl ⟨by rfl, ?_⟩) hHeld ?_ ?_; rotate_left; (rintro w' ⟨s0, s1, s2, s3, s4, s5, s6, s7, s8, s9⟩; go_simp; with_reducible rfl); rotate_left; (exact put_q)
       refine one_ (i := 14) (N := some 31) (bL 33 32767) rfl rfl (one_of HT_.out (by kernel_rfl)) (by decide) (fun K hK => ?_)
       refine goes_ Try.func67 (by kernel_rfl) rfl #[.int .i64 ((rd_T63 Aa Ab).f1), .int .i64 1, .int .i64 1000] (by rfl) rfl rfl mp_q ?_
       with_reducible refine (spec_l01In.calls ((rd_T63 Aa Ab).f1) 1 1000 Bd _ A14.out).mono ?_
       rintro e w' ⟨rfl, ⟨nd, rfl⟩⟩
       refine ⟨_, rfl, ?_⟩
       refine hK.out _ _ ⟨(blk_cell Ag.out 0).trans rfl, (blk_cell Ag.out 1).trans rfl, (blk_cell Ac.out 0).trans rfl, (blk_cell Ac.out 1).trans rfl, (blk_cell Ac.out 2).trans rfl, (blk_cell Ac.out 3).trans rfl, (blk_cell Ac.out 4).trans rfl, (blk_cell Ac.out 5).trans rfl, (blk_cell Ac.out 6).trans rfl, (blk_cell Ac.out 7).trans rfl⟩ (fun hHeld => ?_)
       clear hK K
       refine norm_ (a' := ?_) ?_ ?_; rotate_left; (show Act.put _ (some 31) _ = _; simp only [Act.put, List.setIfInBounds_toArray, List.set_cons_zero, List.set_cons_succ, i64_w, i32_w]; rfl)
       refine pq_ 15 32 (bL 33 65535) HT_.out rfl rfl ?_
       refine pq_ 16 33 (bL 33 131071) HT_.out rfl rfl ?_
       refine pq_ 17 34 (bL 33 262143) HT_.out rfl rfl ?_
       have H := HZ30.out; clear HZ30
       by_cases c15 : Bd = true
       ·subst c15; rw [if_pos rfl] at H; have HZ31 := ak H; clear H
        refine pq_ 18 35 (bL 33 524287) HT_.out rfl rfl ?_
        refine pq_ 19 36 (bL 33 1048575) HT_.out rfl rfl ?_
        refine pq_ 20 37 (bL 33 2097151) HT_.out rfl rfl ?_
        have H := HZ31.out; clear HZ31
        by_cases c16 : Ab > 0
        ·rw [if_pos c16] at H
         have Aq : decide (0 < Ab) = true := decide_eq_true c16
         (first | rw [Aq] | (simp only [i64_w, i32_w]; first | rw [Aq]) | skip)
         clear c16; obtain ⟨ji17, hji17⟩ : ∃ j_ : Int, (wrap64 (Ab - 1)) = j_ := ⟨_, rfl⟩
         replace H : (if 0 ≤ (ji17) then (if (ji17) < (Aa.length : Int) then (if ((rd_T63 Aa (ji17)).f0) ≥ ((rd_T63 Aa Ab).f0) then (some false) else (spec_l04Near.l0 k1 (wrap64 (Ab + 1)) Ai Aj Af Ak Al Aa Am An)) else (none)) else (none)) = some r := by first | (rw [hji17] at H; exact H) | (simp only [hji17] at H ⊢; exact H)
         (try rw [hji17] at A5)
         (try rw [hji17] at A14)
         have hji17w : (IntKind.i64.wrap (Ab - 1)) = ji17 := (i64_w _).trans hji17
         by_cases c18 : 0 ≤ (ji17)
         ·rw [if_pos c18] at H
          have Cx : decide (0 ≤ (ji17)) = true := decide_eq_true c18
          clear c18
          by_cases c19 : (ji17) < (Aa.length : Int)
          ·rw [if_pos c19] at H
           have Cy : decide ((ji17) < (Aa.length : Int)) = true := decide_eq_true c19
           clear c19; have HZ32 := ak H; clear H
           have p175 : 0 ≤ ((ji17) : Int) := of_decide_eq_true as_q
           have q175 : (ji17) < (Aa.length : Int) := of_decide_eq_true as_q
           obtain ⟨Be, e175, As, At⟩ := at_T63 Ba.out (ji17) p175 q175; have hw175_1 := At; have hw175_0 := As
           obtain rfl : Ah = Be := (by injection e175)
           replace As := hbc HB As; replace At := hbc HB At; replace p175 := eq_true p175; replace q175 := eq_true q175
           refine last_weaken (fun w' => w'.cell? ⟨Ae, 0, none⟩ = some (.int .i64 ((rd_T63 Aa Ab).f0)) ∧ w'.cell? ⟨Ae, 1, none⟩ = some (.int .i64 ((rd_T63 Aa Ab).f1)) ∧ w'.cell? ⟨Ad, 0, none⟩ = some (.int .i64 Ai) ∧ w'.cell? ⟨Ad, 1, none⟩ = some (.int .i64 Aj) ∧ w'.cell? ⟨Ad, 2, none⟩ = some (.int .i64 Af) ∧ w'.cell? ⟨Ad, 3, none⟩ = some (.int .i64 Ak) ∧ w'.cell? ⟨Ad, 4, none⟩ = some (.int .i64 Al) ∧ w'.cell? ⟨Ad, 5, none⟩ = some (.slice (some Ah) Aa.length Ao) ∧ w'.cell? ⟨Ad, 6, none⟩ = some (.int .i64 Am) ∧ w'.cell? ⟨Ad, 7, none⟩ = some (.bool An) ∧ w'.cell? (Ah.add (((ji17)).toNat * 2)) = some (.int .i64 ((rd_T63 Aa (ji17)).f0)) ∧ w'.cell? ⟨(Ah.add (((ji17)).toNat * 2)).block, (Ah.add (((ji17)).toNat * 2)).off + 1, none⟩ = some (.int .i64 ((rd_T63 Aa (ji17)).f1))) (fun w' h_ => ⟨h_.1, h_.2.1, h_.2.2.1, h_.2.2.2.1, h_.2.2.2.2.1, h_.2.2.2.2.2.1, h_.2.2.2.2.2.2.1, h_.2.2.2.2.2.2.2.1, h_.2.2.2.2.2.2.2.2.1, h_.2.2.2.2.2.2.2.2.2.1⟩) ⟨hHeld.1, hHeld.2.1, hHeld.2.2.1, hHeld.2.2.2.1, hHeld.2.2.2.2.1, hHeld.2.2.2.2.2.1, hHeld.2.2.2.2.2.2.1, hHeld.2.2.2.2.2.2.2.1, hHeld.2.2.2.2.2.2.2.2.1, hHeld.2.2.2.2.2.2.2.2.2, (by first | assumption | exact ((HB.out.cell (World.block_lt_of_cell? w _ hw175_0)).trans hw175_0)), (by first | assumption | exact ((HB.out.cell (World.block_lt_of_cell? w _ hw175_1)).trans hw175_1))⟩ (fun hHeld => ?_)
           refine pq_ 21 38 (bL 33 4194303) HT_.out rfl rfl ?_
           refine pq_ 23 40 (bL 33 12582911) HT_.out rfl rfl ?_
           refine pq_ 24 41 (bL 33 29360127) HT_.out rfl rfl ?_
           refine pq_ 28 45 (bL 33 297795583) HT_.out rfl rfl ?_
           refine take_ (i := 22) (N := some 39) (v := ?_) (a' := ?_) (bL 33 301989887) rfl rfl (take_ofW HT_.out HW_.out (by kernel_rfl)) (fun _ _ _ h => h) (Or.inl ⟨by rfl, ?_⟩) hHeld ?_ ?_; rotate_left; (rintro w' ⟨s0, s1, s2, s3, s4, s5, s6, s7, s8, s9, s10, s11⟩; go_simp; with_reducible rfl); rotate_left; (exact put_q)
           refine pq_ 25 42 (bL 33 335544319) HT_.out rfl rfl ?_
           refine pq_ 26 43 (bL 33 402653183) HT_.out rfl rfl ?_
           refine take_ (i := 27) (N := some 44) (v := ?_) (a' := ?_) (bL 33 536870911) rfl rfl (take_ofW HT_.out HW_.out (by kernel_rfl)) (fun _ _ _ h => h) (Or.inl ⟨by rfl, ?_⟩) hHeld ?_ ?_; rotate_left; (rintro w' ⟨s0, s1, s2, s3, s4, s5, s6, s7, s8, s9, s10, s11⟩; go_simp; with_reducible rfl); rotate_left; (exact put_q)
           refine take_ (i := 29) (N := some 46) (v := ?_) (a' := ?_) (bL 33 1073741823) rfl rfl (take_ofW HT_.out HW_.out (by kernel_rfl)) (fun _ _ _ h => h) (Or.inl ⟨by rfl, ?_⟩) hHeld ?_ ?_; rotate_left; (rintro w' ⟨s0, s1, s2, s3, s4, s5, s6, s7, s8, s9, s10, s11⟩; go_simp; with_reducible rfl); rotate_left; (exact put_q)
           refine pq_ 30 47 (bL 33 2147483647) HT_.out rfl rfl ?_
           refine pq_ 31 48 (bL 33 4294967295) HT_.out rfl rfl ?_
           refine pq_ 32 49 (bL 33 8589934591) HT_.out rfl rfl ?_
           have H := HZ32.out; clear HZ32
           by_cases c20 : ((rd_T63 Aa (ji17)).f0) ≥ ((rd_T63 Aa Ab).f0)
           ·rw [if_pos c20] at H
            have Ar : decide (((rd_T63 Aa Ab).f0) ≤ ((rd_T63 Aa (ji17)).f0)) = true := decide_eq_true c20
            (first | rw [Ar] | (simp only [i64_w, i32_w]; first | rw [Ar]) | skip)
            clear c20; obtain rfl := Option.some.inj H
            refine done_ (done_of HT_.out (by kernel_rfl)) ?_
            try go_wp2
            go_ret
            exact ⟨by first | rfl | (simp [errW_none, errW_some] <;> rfl) | (simp only [← hji17]; first | rfl | (simp [errW_none, errW_some] <;> rfl)) | (simp [*, errW_none, errW_some] <;> rfl), bw_q HB⟩
           ·rw [if_neg c20] at H
            have Ar : decide (((rd_T63 Aa Ab).f0) ≤ ((rd_T63 Aa (ji17)).f0)) = false := decide_eq_false c20
            (first | rw [Ar] | (simp only [i64_w, i32_w]; first | rw [Ar]) | skip)
            clear c20; have H' := ak H; clear H
            refine done_ (done_of HT_.out (by kernel_rfl)) ?_
            try go_wp2
            go_roundg k1
            case measure => have := Bb.out; omega
            case rel => exact ⟨(wrap64 (Ab + 1)), rs_q, H', ⟨by have := Bb.out; omega⟩, ⟨bk_q Ac⟩, ⟨bw_q HB⟩⟩
          ·rw [if_neg c19] at H
           exact absurd H (by simp)
         ·rw [if_neg c18] at H
          exact absurd H (by simp)
        ·rw [if_neg c16] at H
         have Aq : decide (0 < Ab) = false := decide_eq_false c16
         (first | rw [Aq] | (simp only [i64_w, i32_w]; first | rw [Aq]) | skip)
         clear c16; have H' := ak H; clear H
         refine pu_ 21 38 (bL 33 4194303) HT_.out rfl rfl ?_
         refine pu_ 22 39 (bL 33 8388607) HT_.out rfl rfl ?_
         refine pu_ 23 40 (bL 33 16777215) HT_.out rfl rfl ?_
         refine pu_ 24 41 (bL 33 33554431) HT_.out rfl rfl ?_
         refine pu_ 25 42 (bL 33 67108863) HT_.out rfl rfl ?_
         refine pu_ 26 43 (bL 33 134217727) HT_.out rfl rfl ?_
         refine pu_ 27 44 (bL 33 268435455) HT_.out rfl rfl ?_
         refine pu_ 28 45 (bL 33 536870911) HT_.out rfl rfl ?_
         refine pu_ 29 46 (bL 33 1073741823) HT_.out rfl rfl ?_
         refine pu_ 30 47 (bL 33 2147483647) HT_.out rfl rfl ?_
         refine pq_ 31 48 (bL 33 4294967295) HT_.out rfl rfl ?_
         refine pq_ 32 49 (bL 33 8589934591) HT_.out rfl rfl ?_
         refine done_ (done_of HT_.out (by kernel_rfl)) ?_
         try go_wp2
         go_roundg k1
         case measure => have := Bb.out; omega
         case rel => exact ⟨(wrap64 (Ab + 1)), rs_q, H', ⟨by have := Bb.out; omega⟩, ⟨bk_q Ac⟩, ⟨bw_q HB⟩⟩
       ·replace c15 := Bool.eq_false_iff.mpr c15; subst c15
        rw [if_neg (show ¬ (false = true) by decide)] at H
        obtain rfl := Option.some.inj H
        refine pu_ 18 35 (bL 33 524287) HT_.out rfl rfl ?_
        refine pu_ 19 36 (bL 33 1048575) HT_.out rfl rfl ?_
        refine pu_ 20 37 (bL 33 2097151) HT_.out rfl rfl ?_
        refine pu_ 21 38 (bL 33 4194303) HT_.out rfl rfl ?_
        refine pu_ 22 39 (bL 33 8388607) HT_.out rfl rfl ?_
        refine pu_ 23 40 (bL 33 16777215) HT_.out rfl rfl ?_
        refine pu_ 24 41 (bL 33 33554431) HT_.out rfl rfl ?_
        refine pu_ 25 42 (bL 33 67108863) HT_.out rfl rfl ?_
        refine pu_ 26 43 (bL 33 134217727) HT_.out rfl rfl ?_
        refine pu_ 27 44 (bL 33 268435455) HT_.out rfl rfl ?_
        refine pu_ 28 45 (bL 33 536870911) HT_.out rfl rfl ?_
        refine pu_ 29 46 (bL 33 1073741823) HT_.out rfl rfl ?_
        refine pu_ 30 47 (bL 33 2147483647) HT_.out rfl rfl ?_
        refine pu_ 31 48 (bL 33 4294967295) HT_.out rfl rfl ?_
        refine pq_ 32 49 (bL 33 8589934591) HT_.out rfl rfl ?_
        refine done_ (done_of HT_.out (by kernel_rfl)) ?_
        try go_wp2
        go_ret
        exact ⟨er_q, bw_q HB⟩
     ·replace c6 := Bool.eq_false_iff.mpr c6; subst c6
      rw [if_neg (show ¬ (false = true) by decide)] at H
      obtain rfl := Option.some.inj H
      refine pu_ 5 22 (bL 33 63) HT_.out rfl rfl ?_
      refine pu_ 6 23 (bL 33 127) HT_.out rfl rfl ?_
      refine pu_ 7 24 (bL 33 255) HT_.out rfl rfl ?_
      refine pu_ 8 25 (bL 33 511) HT_.out rfl rfl ?_
      refine pu_ 9 26 (bL 33 1023) HT_.out rfl rfl ?_
      refine pq_ 10 27 (bL 33 2047) HT_.out rfl rfl ?_
      refine pq_ 11 28 (bL 33 4095) HT_.out rfl rfl ?_
      refine pu_ 12 29 (bL 33 8191) HT_.out rfl rfl ?_
      refine pu_ 13 30 (bL 33 16383) HT_.out rfl rfl ?_
      refine pu_ 14 31 (bL 33 32767) HT_.out rfl rfl ?_
      refine pu_ 15 32 (bL 33 65535) HT_.out rfl rfl ?_
      refine pq_ 16 33 (bL 33 131071) HT_.out rfl rfl ?_
      refine pq_ 17 34 (bL 33 262143) HT_.out rfl rfl ?_
      refine pu_ 18 35 (bL 33 524287) HT_.out rfl rfl ?_
      refine pu_ 19 36 (bL 33 1048575) HT_.out rfl rfl ?_
      refine pu_ 20 37 (bL 33 2097151) HT_.out rfl rfl ?_
      refine pu_ 21 38 (bL 33 4194303) HT_.out rfl rfl ?_
      refine pu_ 22 39 (bL 33 8388607) HT_.out rfl rfl ?_
      refine pu_ 23 40 (bL 33 16777215) HT_.out rfl rfl ?_
      refine pu_ 24 41 (bL 33 33554431) HT_.out rfl rfl ?_
      refine pu_ 25 42 (bL 33 67108863) HT_.out rfl rfl ?_
      refine pu_ 26 43 (bL 33 134217727) HT_.out rfl rfl ?_
      refine pu_ 27 44 (bL 33 268435455) HT_.out rfl rfl ?_
      refine pu_ 28 45 (bL 33 536870911) HT_.out rfl rfl ?_
      refine pu_ 29 46 (bL 33 1073741823) HT_.out rfl rfl ?_
      refine pu_ 30 47 (bL 33 2147483647) HT_.out rfl rfl ?_
      refine pu_ 31 48 (bL 33 4294967295) HT_.out rfl rfl ?_
      refine pq_ 32 49 (bL 33 8589934591) HT_.out rfl rfl ?_
      refine done_ (done_of HT_.out (by kernel_rfl)) ?_
      try go_wp2
      go_ret
      exact ⟨er_q, bw_q HB⟩
    ·rw [if_neg c4] at H
     exact absurd H (by simp)
   ·rw [if_neg c3] at H
    have Bf : decide (Ab < (Aa.length : Int)) = false := decide_eq_false c3
    clear c3; obtain rfl := Option.some.inj H; obtain ⟨Bk, Bl, Bm, Bn, Bo, Bp, Bq, Br, Bs, Bt, Bu, Bv, Bw, Bx, By, Bz⟩ := cf8_ Ac
    go_wp2
    go_ret
    exact ⟨er_q, bw_q HB⟩

/-! ### spec_RecordOk: function 26 -/
def spec_RecordOk.j0 : Nat → Bool → Int → Int → Int → Int → Int → List (S63) → Int → Bool → Option (Bool)
 | 0, _, _, _, _, _, _, _, _, _ => none
 | k + 1, s, b, c, h, d, i, e, a, g => if s = true then (some false) else (if c = 1 then ((spec_l01In.f b 0 2).bind fun j => (if j = true then (if d = 0 then ((spec_l04Near.f k b c h d i e a g).bind fun l => (if l = true then (if a = 0 then (some (!g)) else (some false)) else (some false))) else (some false)) else (some false))) else (if c = 2 then ((spec_l01In.f b 0 2).bind fun m => (if m = true then ((spec_l01In.f d 1 6).bind fun n => (if n = true then (if (e.length : Int) = 0 then ((spec_l01In.f a 0 60000).bind fun o => (if o = true then (some (!g)) else (some false))) else (some false)) else (some false))) else (some false))) else (if c = 3 then (if b = 9 then ((spec_l01In.f d 1 9).bind fun p => (if p = true then (if (e.length : Int) = 0 then ((spec_l01In.f a 1 1000).bind fun q => (if q = true then (some true) else (some (a == 60000)))) else (some false)) else (some false))) else (some false)) else (some false))))
def spec_RecordOk.f (k : Nat) (e : Int) (g : Int) (c : Int) (h : Int) (d : Int) (i : List (S63)) (j : Int) (l : Bool) : Option (Bool) := (spec_l01In.f c 1 6).bind fun a => (if a = true then ((spec_l01In.f d 1 100000).bind fun b => (spec_RecordOk.j0 k (!b) e g c h d i j l)) else (spec_RecordOk.j0 k true e g c h d i j l))
theorem spec_RecordOk.mono_l : ∀ k, (∀ y0 y1 y2 y3 y4 y5 y6 y7 y8, LeO (spec_RecordOk.j0 k y0 y1 y2 y3 y4 y5 y6 y7 y8) (spec_RecordOk.j0 (k + 1) y0 y1 y2 y3 y4 y5 y6 y7 y8))
 | 0 => fun _ _ _ _ _ _ _ _ _ r h => by simp [spec_RecordOk.j0] at h
 | k + 1 => by
  have ih0 := spec_RecordOk.mono_l k
  ·intro y0 y1 y2 y3 y4 y5 y6 y7 y8
   unfold spec_RecordOk.j0
   with_reducible repeat' (first | apply ih0 | apply spec_l04Near.mono | exact LeO.refl _ | exact LeO.none _ | refine LeO.ite ?_ ?_ | refine LeO.bind ?_ (fun _ => ?_))
theorem spec_RecordOk.mono : ∀ a0 a1 a2 a3 a4 a5 a6 a7 k, LeO (spec_RecordOk.f k a0 a1 a2 a3 a4 a5 a6 a7) (spec_RecordOk.f (k + 1) a0 a1 a2 a3 a4 a5 a6 a7) := by
 intro a0 a1 a2 a3 a4 a5 a6 a7 k
 have ih0 := spec_RecordOk.mono_l k
 unfold spec_RecordOk.f
 with_reducible repeat' (first | apply ih0 | apply spec_l04Near.mono | exact LeO.refl _ | exact LeO.none _ | refine LeO.ite ?_ ?_ | refine LeO.bind ?_ (fun _ => ?_))
set_option maxHeartbeats 8000000 in
set_option maxRecDepth 100000 in
theorem spec_RecordOk.calls (k : Nat) (Ab : Int) (Ac : Int) (Ag : Int) (Ae : Int) (Ah : Int) (Al : Option Addr) (Am : Nat) (Ad : List (S63)) (Af : Int) (Ai : Bool) (r : Bool) (w : World) (hr0_5 : Kd.C k63 w Al Ad.length Ad) (hc0_5 : Ad.length ≤ Am) (h : spec_RecordOk.f k Ab Ac Ag Ae Ah Ad Af Ai = some r) :
  Calls Try.prog 26 #[.agg #[.int .i64 Ab, .int .i64 Ac, .int .i64 Ag, .int .i64 Ae, .int .i64 Ah, .slice Al Ad.length Am, .int .i64 Af, .bool Ai]] w fun e w' => e = .returned (.bool r) ∧ Below w.heap.size w w' := by
 have hu24 := Try.underlying24; have An := ak hr0_5; have Ao := ak hc0_5; clear hr0_5 hc0_5; have HB := ak (Below.refl w.heap.size w); have H := h
 clear h; unfold spec_RecordOk.f at H; have Ap := ak H; clear H
 go_enter Try.func26, Try.ntmps26
 go_upto_region 1 with (first | ((with_reducible refine gate_dst (N := 1) rfl ?_); (try (refine gate_guard (by rfl) ?_; dsimp only)); refine box_q 1 #[.int .i64 Ab, .int .i64 Ac, .int .i64 Ag, .int .i64 Ae, .int .i64 Ah, .slice Al Ad.length Am, .int .i64 Af, .bool Ai] 24 ?_; intro Aj hg w3 hbox hb; have Aa := ak (hbox); have Ny := gsz w (below_size (bw_q HB)) hg; have Nz := gsz w (below_size (bw_q HB)) hg; replace HB := ak (below_step (bw_q HB) hb); clear hb hbox hg))
 (try simp only [Act.put, List.setIfInBounds_toArray, List.set_cons_zero, List.set_cons_succ])
 go_cut [12] (fun v12 wc => ∃ (kq : Nat) (Ak : Bool), v12 = .bool Ak ∧ Aside0 (spec_RecordOk.j0 kq Ak Ab Ac Ag Ae Ah Ad Af Ai = some r) ∧ Aside0 (kq ≤ k) ∧ Aside0 (wc.heap[Aj]? = some (.cells #[.int .i64 Ab, .int .i64 Ac, .int .i64 Ag, .int .i64 Ae, .int .i64 Ah, (.slice Al Ad.length Am), .int .i64 Af, .bool Ai] 24 (0, 0))) ∧ Aside0 (Below w.heap.size w wc))
 case first =>
  have H := Ap.out; clear Ap; replace H := bsi H; obtain ⟨Cn, A40, H⟩ := H
  (try dsimp only at H)
  have A4 := ak A40; clear A40
  by_cases c5 : Cn = true
  ·subst c5; rw [if_pos rfl] at H; replace H := bsi H; obtain ⟨Aq, A60, H⟩ := H
   (try dsimp only at H)
   have A6 := ak A60; clear A60; have H' := ak H; clear H; obtain ⟨Ar, As, At, Au, Av, Aw, Ax, Ay, Az, Ba, Bb, Bc, Bd, Be, Bf, Bg⟩ := cf8_ Aa
   go_wp2_with (first | ((with_reducible refine gate_callee (f := 67) rfl ?_); refine goesL_ (some 5) rfl rfl Try.func67 (by kernel_rfl) rfl #[.int .i64 Ag, .int .i64 1, .int .i64 6] rfl mp_q ?_; (with_reducible refine (spec_l01In.calls Ag 1 6 true _ A4.out).mono ?_); rintro e w' ⟨rfl, ⟨nd, rfl⟩⟩; refine ⟨_, rfl, ?_⟩) | (go_at_call 67; (with_reducible refine (spec_l01In.calls Ah 1 100000 Aq _ A6.out).mono ?_); rintro e w' ⟨rfl, ⟨nd, rfl⟩⟩))
   go_meet
   case rel => exact ⟨_, (!Aq), rs_q, H', ⟨by first | omega | exact Nat.le_refl _⟩, ⟨bk_q Aa⟩, ⟨bw_q HB⟩⟩
  ·replace c5 := Bool.eq_false_iff.mpr c5; subst c5
   rw [if_neg (show ¬ (false = true) by decide)] at H
   have H' := ak H; clear H; obtain ⟨Bh, Bi, Bj, Bk, Bl, Bm, Bn, Bo, Bp, Bq, Br, Bs, Bt, Bu, Bv, Bw⟩ := cf8_ Aa
   go_wp2_with (first | ((with_reducible refine gate_callee (f := 67) rfl ?_); refine goesL_ (some 5) rfl rfl Try.func67 (by kernel_rfl) rfl #[.int .i64 Ag, .int .i64 1, .int .i64 6] rfl mp_q ?_; (with_reducible refine (spec_l01In.calls Ag 1 6 false _ A4.out).mono ?_); rintro e w' ⟨rfl, ⟨nd, rfl⟩⟩; refine ⟨_, rfl, ?_⟩))
   go_meet
   case rel => exact ⟨_, (true), rs_q, H', ⟨by first | omega | exact Nat.le_refl _⟩, ⟨bk_q Aa⟩, ⟨bw_q HB⟩⟩
 case rest =>
  clear Ap; (try clear c2); (try clear p2); (try clear c5); (try clear c6)
  try clear Ar As At Au Av Aw Ax Ay
  try clear Bh Bi Bj Bk Bl Bm Bn Bo
  try clear Az Ba Bb Bc Bd Be Bf Bg
  try clear Bp Bq Br Bs Bt Bu Bv Bw
  obtain ⟨kq, Ak, rfl, HA, HJ1, Aa, HB⟩ := hcut
  cases kq with
  | zero => exact absurd HA.out (by simp [spec_RecordOk.j0])
  | succ kj1 =>
   have H := HA.out; clear HA
   simp only [spec_RecordOk.j0] at H
   by_cases c9 : Ak = true
   ·subst c9; rw [if_pos rfl] at H; obtain rfl := Option.some.inj H
    go_wp2
    go_ret
    exact ⟨er_q, bw_q HB⟩
   ·replace c9 := Bool.eq_false_iff.mpr c9; subst c9
    rw [if_neg (show ¬ (false = true) by decide)] at H
    by_cases c10 : Ac = 1
    ·rw [if_pos c10] at H
     have Bx : (Ac == 1) = true := bqi c10
     have By : (Ac != 1) = false := bnf c10
     clear c10; replace H := bsi H; obtain ⟨Co, A110, H⟩ := H
     (try dsimp only at H)
     have A11 := ak A110; clear A110
     by_cases c12 : Co = true
     ·subst c12; rw [if_pos rfl] at H
      by_cases c13 : Ae = 0
      ·rw [if_pos c13] at H
       have Bz : (Ae == 0) = true := bqi c13
       have Ca : (Ae != 0) = false := bnf c13
       clear c13; replace H := bsi H; obtain ⟨Cp, A140, H⟩ := H
       (try dsimp only at H)
       have A14 := ak A140; clear A140
       by_cases c15 : Cp = true
       ·subst c15; rw [if_pos rfl] at H
        by_cases c16 : Af = 0
        ·rw [if_pos c16] at H
         have Cb : (Af == 0) = true := bqi c16
         have Cc : (Af != 0) = false := bnf c16
         clear c16; obtain rfl := Option.some.inj H; obtain ⟨Cv, Cw, Cx, Cy, Cz, Da, Db, Dc, Dd, De, Df, Dg, Dh, Di, Dj, Dk⟩ := cf8_ Aa
         go_wp2_with (first | ((with_reducible refine gate_callee (f := 67) rfl ?_); refine goesL_ (some 19) rfl rfl Try.func67 (by kernel_rfl) rfl #[.int .i64 Ab, .int .i64 0, .int .i64 2] rfl mp_q ?_; (with_reducible refine (spec_l01In.calls Ab 0 2 true _ A11.out).mono ?_); rintro e w' ⟨rfl, ⟨nd, rfl⟩⟩; refine ⟨_, rfl, ?_⟩) | (go_at_call 68; (with_reducible refine (spec_l04Near.calls kj1 Ab Ac Ag Ae Ah _ _ Ad Af Ai true _ ?side1 ?side2 A14.out).mono ?_); (case side1 => repeat (first | exact (Kd.C_below An.out (bw_q HB)) | (with_reducible refine Kd.C_alloc ?_ _) | (with_reducible refine Kd.C_drewN ?_ _) | (with_reducible refine Kd.C_drew ?_))); (case side2 => exact Ao.out); rintro e w18 ⟨rfl, hb⟩; replace Aa := ak (blk_below (g := Aj) (bk_q Aa) hb); replace HB := ak (below_step (bw_q HB) hb); obtain ⟨Dl, Dm, Dn, Do, Dp, Dq, Dr, Ds, Dt, Du, Dv, Dw, Dx, Dy, Dz, Ea⟩ := cf8_ Aa))
         go_ret
         exact ⟨er_q, bw_q HB⟩
        ·rw [if_neg c16] at H
         have Cb : (Af == 0) = false := bqf c16
         have Cc : (Af != 0) = true := bni c16
         obtain rfl := Option.some.inj H; obtain ⟨Eb, Ec, Ed, Ee, Ef, Eg, Eh, Ei, Ej, Ek, El, Em, En, Eo, Ep, Eq⟩ := cf8_ Aa
         go_wp2_with (first | ((with_reducible refine gate_callee (f := 67) rfl ?_); refine goesL_ (some 19) rfl rfl Try.func67 (by kernel_rfl) rfl #[.int .i64 Ab, .int .i64 0, .int .i64 2] rfl mp_q ?_; (with_reducible refine (spec_l01In.calls Ab 0 2 true _ A11.out).mono ?_); rintro e w' ⟨rfl, ⟨nd, rfl⟩⟩; refine ⟨_, rfl, ?_⟩) | (go_at_call 68; (with_reducible refine (spec_l04Near.calls kj1 Ab Ac Ag Ae Ah _ _ Ad Af Ai true _ ?side1 ?side2 A14.out).mono ?_); (case side1 => repeat (first | exact (Kd.C_below An.out (bw_q HB)) | (with_reducible refine Kd.C_alloc ?_ _) | (with_reducible refine Kd.C_drewN ?_ _) | (with_reducible refine Kd.C_drew ?_))); (case side2 => exact Ao.out); rintro e w21 ⟨rfl, hb⟩; replace Aa := ak (blk_below (g := Aj) (bk_q Aa) hb); replace HB := ak (below_step (bw_q HB) hb); obtain ⟨Er, Es, Et, Eu, Ev, Ew, Ex, Ey, Ez, Fa, Fb, Fc, Fd, Fe, Ff, Fg⟩ := cf8_ Aa))
         go_ret
         exact ⟨er_q, bw_q HB⟩
       ·replace c15 := Bool.eq_false_iff.mpr c15; subst c15
        rw [if_neg (show ¬ (false = true) by decide)] at H
        obtain rfl := Option.some.inj H; obtain ⟨Fh, Fi, Fj, Fk, Fl, Fm, Fn, Fo, Fp, Fq, Fr, Fs, Ft, Fu, Fv, Fw⟩ := cf8_ Aa
        go_wp2_with (first | ((with_reducible refine gate_callee (f := 67) rfl ?_); refine goesL_ (some 19) rfl rfl Try.func67 (by kernel_rfl) rfl #[.int .i64 Ab, .int .i64 0, .int .i64 2] rfl mp_q ?_; (with_reducible refine (spec_l01In.calls Ab 0 2 true _ A11.out).mono ?_); rintro e w' ⟨rfl, ⟨nd, rfl⟩⟩; refine ⟨_, rfl, ?_⟩) | (go_at_call 68; (with_reducible refine (spec_l04Near.calls kj1 Ab Ac Ag Ae Ah _ _ Ad Af Ai false _ ?side1 ?side2 A14.out).mono ?_); (case side1 => repeat (first | exact (Kd.C_below An.out (bw_q HB)) | (with_reducible refine Kd.C_alloc ?_ _) | (with_reducible refine Kd.C_drewN ?_ _) | (with_reducible refine Kd.C_drew ?_))); (case side2 => exact Ao.out); rintro e w24 ⟨rfl, hb⟩; replace Aa := ak (blk_below (g := Aj) (bk_q Aa) hb); replace HB := ak (below_step (bw_q HB) hb)))
        go_ret
        exact ⟨er_q, bw_q HB⟩
      ·rw [if_neg c13] at H
       have Bz : (Ae == 0) = false := bqf c13
       have Ca : (Ae != 0) = true := bni c13
       obtain rfl := Option.some.inj H; obtain ⟨Fx, Fy, Fz, Ga, Gb, Gc, Gd, Ge, Gf, Gg, Gh, Gi, Gj, Gk, Gl, Gm⟩ := cf8_ Aa
       go_wp2_with (first | ((with_reducible refine gate_callee (f := 67) rfl ?_); refine goesL_ (some 19) rfl rfl Try.func67 (by kernel_rfl) rfl #[.int .i64 Ab, .int .i64 0, .int .i64 2] rfl mp_q ?_; (with_reducible refine (spec_l01In.calls Ab 0 2 true _ A11.out).mono ?_); rintro e w' ⟨rfl, ⟨nd, rfl⟩⟩; refine ⟨_, rfl, ?_⟩))
       go_ret
       exact ⟨er_q, bw_q HB⟩
     ·replace c12 := Bool.eq_false_iff.mpr c12; subst c12
      rw [if_neg (show ¬ (false = true) by decide)] at H
      obtain rfl := Option.some.inj H; obtain ⟨Gn, Go, Gp, Gq, Gr, Gs, Gt, Gu, Gv, Gw, Gx, Gy, Gz, Ha, Hb, Hc⟩ := cf8_ Aa
      go_wp2_with (first | ((with_reducible refine gate_callee (f := 67) rfl ?_); refine goesL_ (some 19) rfl rfl Try.func67 (by kernel_rfl) rfl #[.int .i64 Ab, .int .i64 0, .int .i64 2] rfl mp_q ?_; (with_reducible refine (spec_l01In.calls Ab 0 2 false _ A11.out).mono ?_); rintro e w' ⟨rfl, ⟨nd, rfl⟩⟩; refine ⟨_, rfl, ?_⟩))
      go_ret
      exact ⟨er_q, bw_q HB⟩
    ·rw [if_neg c10] at H
     have Bx : (Ac == 1) = false := bqf c10
     have By : (Ac != 1) = true := bni c10
     by_cases c27 : Ac = 2
     ·rw [if_pos c27] at H
      have Cd : (Ac == 2) = true := bqi c27
      have Ce : (Ac != 2) = false := bnf c27
      clear c27; replace H := bsi H; obtain ⟨Cq, A280, H⟩ := H
      (try dsimp only at H)
      have A28 := ak A280; clear A280
      by_cases c29 : Cq = true
      ·subst c29; rw [if_pos rfl] at H; replace H := bsi H; obtain ⟨Cr, A300, H⟩ := H
       (try dsimp only at H)
       have A30 := ak A300; clear A300
       by_cases c31 : Cr = true
       ·subst c31; rw [if_pos rfl] at H
        by_cases c32 : (Ad.length : Int) = 0
        ·rw [if_pos c32] at H
         have Cf : ((Ad.length : Int) == 0) = true := bqi c32
         have Cg : ((Ad.length : Int) != 0) = false := bnf c32
         clear c32; replace H := bsi H; obtain ⟨Cs, A330, H⟩ := H
         (try dsimp only at H)
         have A33 := ak A330; clear A330
         by_cases c34 : Cs = true
         ·subst c34; rw [if_pos rfl] at H; obtain rfl := Option.some.inj H; obtain ⟨Hd, He, Hf, Hg, Hh, Hi, Hj, Hk, Hl, Hm, Hn, Ho, Hp, Hq, Hr, Hs⟩ := cf8_ Aa
          go_wp2_with (first | ((with_reducible refine gate_callee (f := 67) rfl ?_); refine goesL_ (some 43) rfl rfl Try.func67 (by kernel_rfl) rfl #[.int .i64 Ab, .int .i64 0, .int .i64 2] rfl mp_q ?_; (with_reducible refine (spec_l01In.calls Ab 0 2 true _ A28.out).mono ?_); rintro e w' ⟨rfl, ⟨nd, rfl⟩⟩; refine ⟨_, rfl, ?_⟩) | (go_at_call 67; (with_reducible refine (spec_l01In.calls Ae 1 6 true _ A30.out).mono ?_); rintro e w' ⟨rfl, ⟨nd, rfl⟩⟩) | (go_at_call 67; (with_reducible refine (spec_l01In.calls Af 0 60000 true _ A33.out).mono ?_); rintro e w' ⟨rfl, ⟨nd, rfl⟩⟩))
          go_ret
          exact ⟨er_q, bw_q HB⟩
         ·replace c34 := Bool.eq_false_iff.mpr c34; subst c34
          rw [if_neg (show ¬ (false = true) by decide)] at H
          obtain rfl := Option.some.inj H; obtain ⟨Ht, Hu, Hv, Hw, Hx, Hy, Hz, Ia, Ib, Ic, Id, Ie, If, Ig, Ih, Ii⟩ := cf8_ Aa
          go_wp2_with (first | ((with_reducible refine gate_callee (f := 67) rfl ?_); refine goesL_ (some 43) rfl rfl Try.func67 (by kernel_rfl) rfl #[.int .i64 Ab, .int .i64 0, .int .i64 2] rfl mp_q ?_; (with_reducible refine (spec_l01In.calls Ab 0 2 true _ A28.out).mono ?_); rintro e w' ⟨rfl, ⟨nd, rfl⟩⟩; refine ⟨_, rfl, ?_⟩) | (go_at_call 67; (with_reducible refine (spec_l01In.calls Ae 1 6 true _ A30.out).mono ?_); rintro e w' ⟨rfl, ⟨nd, rfl⟩⟩) | (go_at_call 67; (with_reducible refine (spec_l01In.calls Af 0 60000 false _ A33.out).mono ?_); rintro e w' ⟨rfl, ⟨nd, rfl⟩⟩))
          go_ret
          exact ⟨er_q, bw_q HB⟩
        ·rw [if_neg c32] at H
         have Cf : ((Ad.length : Int) == 0) = false := bqf c32
         have Cg : ((Ad.length : Int) != 0) = true := bni c32
         have Oa : ¬ (Ad = []) := fun h_ => c32 (by rw [h_]; rfl)
         obtain rfl := Option.some.inj H; obtain ⟨Ij, Ik, Il, Im, In, Io, Ip, Iq, Ir, Is, It, Iu, Iv, Iw, Ix, Iy⟩ := cf8_ Aa
         go_wp2_with (first | ((with_reducible refine gate_callee (f := 67) rfl ?_); refine goesL_ (some 43) rfl rfl Try.func67 (by kernel_rfl) rfl #[.int .i64 Ab, .int .i64 0, .int .i64 2] rfl mp_q ?_; (with_reducible refine (spec_l01In.calls Ab 0 2 true _ A28.out).mono ?_); rintro e w' ⟨rfl, ⟨nd, rfl⟩⟩; refine ⟨_, rfl, ?_⟩) | (go_at_call 67; (with_reducible refine (spec_l01In.calls Ae 1 6 true _ A30.out).mono ?_); rintro e w' ⟨rfl, ⟨nd, rfl⟩⟩))
         go_ret
         exact ⟨er_q, bw_q HB⟩
       ·replace c31 := Bool.eq_false_iff.mpr c31; subst c31
        rw [if_neg (show ¬ (false = true) by decide)] at H
        obtain rfl := Option.some.inj H; obtain ⟨Iz, Ja, Jb, Jc, Jd, Je, Jf, Jg, Jh, Ji, Jj, Jk, Jl, Jm, Jn, Jo⟩ := cf8_ Aa
        go_wp2_with (first | ((with_reducible refine gate_callee (f := 67) rfl ?_); refine goesL_ (some 43) rfl rfl Try.func67 (by kernel_rfl) rfl #[.int .i64 Ab, .int .i64 0, .int .i64 2] rfl mp_q ?_; (with_reducible refine (spec_l01In.calls Ab 0 2 true _ A28.out).mono ?_); rintro e w' ⟨rfl, ⟨nd, rfl⟩⟩; refine ⟨_, rfl, ?_⟩) | (go_at_call 67; (with_reducible refine (spec_l01In.calls Ae 1 6 false _ A30.out).mono ?_); rintro e w' ⟨rfl, ⟨nd, rfl⟩⟩))
        go_ret
        exact ⟨er_q, bw_q HB⟩
      ·replace c29 := Bool.eq_false_iff.mpr c29; subst c29
       rw [if_neg (show ¬ (false = true) by decide)] at H
       obtain rfl := Option.some.inj H; obtain ⟨Jp, Jq, Jr, Js, Jt, Ju, Jv, Jw, Jx, Jy, Jz, Ka, Kb, Kc, Ke, Kf⟩ := cf8_ Aa
       go_wp2_with (first | ((with_reducible refine gate_callee (f := 67) rfl ?_); refine goesL_ (some 43) rfl rfl Try.func67 (by kernel_rfl) rfl #[.int .i64 Ab, .int .i64 0, .int .i64 2] rfl mp_q ?_; (with_reducible refine (spec_l01In.calls Ab 0 2 false _ A28.out).mono ?_); rintro e w' ⟨rfl, ⟨nd, rfl⟩⟩; refine ⟨_, rfl, ?_⟩))
       go_ret
       exact ⟨er_q, bw_q HB⟩
     ·rw [if_neg c27] at H
      have Cd : (Ac == 2) = false := bqf c27
      have Ce : (Ac != 2) = true := bni c27
      by_cases c40 : Ac = 3
      ·rw [if_pos c40] at H
       have Ch : (Ac == 3) = true := bqi c40
       have Ci : (Ac != 3) = false := bnf c40
       clear c40
       by_cases c41 : Ab = 9
       ·rw [if_pos c41] at H
        have Cj : (Ab == 9) = true := bqi c41
        have Ck : (Ab != 9) = false := bnf c41
        clear c41; replace H := bsi H; obtain ⟨Ct, A420, H⟩ := H
        (try dsimp only at H)
        have A42 := ak A420; clear A420
        by_cases c43 : Ct = true
        ·subst c43; rw [if_pos rfl] at H
         by_cases c44 : (Ad.length : Int) = 0
         ·rw [if_pos c44] at H
          have Cl : ((Ad.length : Int) == 0) = true := bqi c44
          have Cm : ((Ad.length : Int) != 0) = false := bnf c44
          clear c44; replace H := bsi H; obtain ⟨Cu, A450, H⟩ := H
          (try dsimp only at H)
          have A45 := ak A450; clear A450
          by_cases c46 : Cu = true
          ·subst c46; rw [if_pos rfl] at H; obtain rfl := Option.some.inj H; obtain ⟨Kg, Kh, Ki, Kj, Kk, Kl, Km, Kn, Ko, Kp, Kq, Kr, Ks, Kt, Ku, Kv⟩ := cf8_ Aa
           go_wp2_with (first | (go_at_call 67; (with_reducible refine (spec_l01In.calls Ae 1 9 true _ A42.out).mono ?_); rintro e w' ⟨rfl, ⟨nd, rfl⟩⟩) | (go_at_call 67; (with_reducible refine (spec_l01In.calls Af 1 1000 true _ A45.out).mono ?_); rintro e w' ⟨rfl, ⟨nd, rfl⟩⟩))
           go_ret
           exact ⟨er_q, bw_q HB⟩
          ·replace c46 := Bool.eq_false_iff.mpr c46; subst c46
           rw [if_neg (show ¬ (false = true) by decide)] at H
           obtain rfl := Option.some.inj H; obtain ⟨Kw, Kx, Ky, Kz, La, Lb, Lc, Ld, Le, Lf, Lg, Lh, Li, Lj, Lk, Ll⟩ := cf8_ Aa
           go_wp2_with (first | (go_at_call 67; (with_reducible refine (spec_l01In.calls Ae 1 9 true _ A42.out).mono ?_); rintro e w' ⟨rfl, ⟨nd, rfl⟩⟩) | (go_at_call 67; (with_reducible refine (spec_l01In.calls Af 1 1000 false _ A45.out).mono ?_); rintro e w' ⟨rfl, ⟨nd, rfl⟩⟩))
           go_ret
           exact ⟨er_q, bw_q HB⟩
         ·rw [if_neg c44] at H
          have Cl : ((Ad.length : Int) == 0) = false := bqf c44
          have Cm : ((Ad.length : Int) != 0) = true := bni c44
          have Ob : ¬ (Ad = []) := fun h_ => c44 (by rw [h_]; rfl)
          obtain rfl := Option.some.inj H; obtain ⟨Lm, Ln, Lo, Lp, Lq, Lr, Ls, Lt, Lu, Lv, Lw, Lx, Ly, Lz, Ma, Mb⟩ := cf8_ Aa
          go_wp2_with (first | (go_at_call 67; (with_reducible refine (spec_l01In.calls Ae 1 9 true _ A42.out).mono ?_); rintro e w' ⟨rfl, ⟨nd, rfl⟩⟩))
          go_ret
          exact ⟨er_q, bw_q HB⟩
        ·replace c43 := Bool.eq_false_iff.mpr c43; subst c43
         rw [if_neg (show ¬ (false = true) by decide)] at H
         obtain rfl := Option.some.inj H; obtain ⟨Mc, Md, Me, Mf, Mg, Mh, Mi, Mj, Mk, Ml, Mm, Mn, Mo, Mp, Mq, Mr⟩ := cf8_ Aa
         go_wp2_with (first | (go_at_call 67; (with_reducible refine (spec_l01In.calls Ae 1 9 false _ A42.out).mono ?_); rintro e w' ⟨rfl, ⟨nd, rfl⟩⟩))
         go_ret
         exact ⟨er_q, bw_q HB⟩
       ·rw [if_neg c41] at H
        have Cj : (Ab == 9) = false := bqf c41
        have Ck : (Ab != 9) = true := bni c41
        obtain rfl := Option.some.inj H; obtain ⟨Ms, Mt, Mu, Mv, Mw, Mx, My, Mz, Na, Nb, Nc, Nd, Ne, Nf, Ng, Nh⟩ := cf8_ Aa
        go_wp2
        go_ret
        exact ⟨er_q, bw_q HB⟩
      ·rw [if_neg c40] at H
       have Ch : (Ac == 3) = false := bqf c40
       have Ci : (Ac != 3) = true := bni c40
       obtain rfl := Option.some.inj H; obtain ⟨Ni, Nj, Nk, Nl, Nm, Nn, No, Np, Nq, Nr, Ns, Nt, Nu, Nv, Nw, Nx⟩ := cf8_ Aa
       go_wp2
       go_ret
       exact ⟨er_q, bw_q HB⟩

/-! ### spec_l04Byte: function 48 -/
def spec_l04Byte.f (a0 : Int) : Option (ByteArray) := some (strOfNums (([(a0) % 256] : List Int)))
set_option maxHeartbeats 8000000 in
set_option maxRecDepth 100000 in
theorem spec_l04Byte.calls (a0 : Int) (r : ByteArray) (w : World) (h : spec_l04Byte.f a0 = some r) :
  Calls Try.prog 48 #[.int .i64 a0] w fun e w' => e = .returned (.string r) ∧ Below w.heap.size w w' := by
 have HB := ak (Below.refl w.heap.size w); have H := h
 clear h; unfold spec_l04Byte.f at H; obtain ⟨Ad, Aa⟩ : ∃ y_ : List Int, y_ = (([(a0) % 256] : List Int)) := ⟨_, rfl⟩
 replace H : (some (strOfNums Ad)) = some r := by first | (rw [Aa]; with_reducible exact H) | (have H2_ := (Option.bind_some _ _).symm.trans H; rw [Aa]; with_reducible exact H2_) | (have H2_ := (Option.bind_some _ _).symm.trans H; with_reducible exact H2_) | with_reducible exact H | (rw [Aa]; exact H) | exact H
 have Ab := ak Aa; clear Aa; obtain rfl := Option.some.inj H
 go_enter Try.func48, Try.ntmps48
 go_wp2_with (first | ((with_reducible refine gate_dst (N := 5) rfl ?_); refine Kd.R_lit (Kd.int .u8) _ 5 ?hg (N := 5) ?hd (xs := ([(a0) % 256] : List Int)) (inner := [.int .u8 ((a0) % 256)]) (ok := fun _ => True) (okp := fun _ => True) ?hr ?hp (fun _ hk => hk) trivial (Below.refl _ _) (Nat.le_refl _) (by simp) ?_; (case hd => rfl); (case hg => rfl); (case hr => first | (go_simp; done) | (go_simp; rfl)); (case hp => exact (Reps.one (show Kd.M (Kd.int .u8) _ _ _ ((a0) % 256) [.int .u8 ((a0) % 256)] from rfl) (Reps.none _ _))); intro v378 w2 ho3 hb hg_ hnew_; clear hg_ hnew_; (first | rw [← Ab.out] at ho3 | (simp only [Int.reduceToNat] at ho3; rw [← Ab.out] at ho3)); have Ac := ak (Kd.R_lower ho3 (below_size (bw_q HB))); replace HB := ak (below_step (bw_q HB) hb); clear hb ho3; have hcv4 := own_string (P := Try.prog) Try.underlying46 Try.underlying5 Try.underlying9 (Kd.own_of_R Ac.out)))
 go_ret
 exact ⟨er_q, bw_q HB⟩

/-! ### spec_RecordText: function 40 -/
def spec_RecordText.l0 : Nat → ByteArray → Int → Int → Int → Int → Int → Int → List (S63) → Int → Bool → Option (ByteArray × Bool)
 | 0, _, _, _, _, _, _, _, _, _, _ => none
 | k + 1, e, n, h, i, j, l, m, a, c, d => if n < (a.length : Int) then (if 0 ≤ n then ((spec_l04Byte.f ((rd_T63 a n).f0)).bind fun g => (if e.size + g.size ≤ 9223372036854775807 then ((spec_l01Var.f k ((rd_T63 a n).f1)).bind fun o => (if (e ++ g).size + o.size ≤ 9223372036854775807 then (spec_RecordText.l0 k ((e ++ g) ++ o) (wrap64 (n + 1)) h i j l m a c d) else (none))) else (none))) else (none)) else ((spec_l01Var.f k c).bind fun b => (if e.size + b.size ≤ 9223372036854775807 then (if d = true then (if (e ++ b).size + 1 ≤ 9223372036854775807 then (some ((e ++ b) ++ (⟨#[1]⟩ : ByteArray), true)) else (none)) else (if (e ++ b).size + 1 ≤ 9223372036854775807 then (some ((e ++ b) ++ (⟨#[0]⟩ : ByteArray), true)) else (none))) else (none)))
def spec_RecordText.f (k : Nat) (i : Int) (j : Int) (l : Int) (m : Int) (n : Int) (o : List (S63)) (p : Int) (q : Bool) : Option (ByteArray × Bool) := (spec_RecordOk.f k i j l m n o p q).bind fun h => (if h = true then ((spec_l04Byte.f i).bind fun a => ((spec_l04Byte.f j).bind fun b => (if a.size + b.size ≤ 9223372036854775807 then ((spec_l04Byte.f l).bind fun c => (if (a ++ b).size + c.size ≤ 9223372036854775807 then ((spec_l04Byte.f m).bind fun d => (if ((a ++ b) ++ c).size + d.size ≤ 9223372036854775807 then ((spec_l01Var.f k n).bind fun e => (if (((a ++ b) ++ c) ++ d).size + e.size ≤ 9223372036854775807 then ((spec_l01Var.f k (o.length : Int)).bind fun g => (if ((((a ++ b) ++ c) ++ d) ++ e).size + g.size ≤ 9223372036854775807 then (spec_RecordText.l0 k (((((a ++ b) ++ c) ++ d) ++ e) ++ g) 0 i j l m n o p q) else (none))) else (none))) else (none))) else (none))) else (none)))) else (some ((⟨#[]⟩ : ByteArray), false)))
theorem spec_RecordText.mono_l : ∀ k, (∀ y0 y1 y2 y3 y4 y5 y6 y7 y8 y9, LeO (spec_RecordText.l0 k y0 y1 y2 y3 y4 y5 y6 y7 y8 y9) (spec_RecordText.l0 (k + 1) y0 y1 y2 y3 y4 y5 y6 y7 y8 y9))
 | 0 => fun _ _ _ _ _ _ _ _ _ _ r h => by simp [spec_RecordText.l0] at h
 | k + 1 => by
  have ih0 := spec_RecordText.mono_l k
  ·intro y0 y1 y2 y3 y4 y5 y6 y7 y8 y9
   unfold spec_RecordText.l0
   with_reducible repeat' (first | apply ih0 | apply spec_RecordOk.mono | apply spec_l01Var.mono | exact LeO.refl _ | exact LeO.none _ | refine LeO.ite ?_ ?_ | refine LeO.bind ?_ (fun _ => ?_))
theorem spec_RecordText.mono : ∀ a0 a1 a2 a3 a4 a5 a6 a7 k, LeO (spec_RecordText.f k a0 a1 a2 a3 a4 a5 a6 a7) (spec_RecordText.f (k + 1) a0 a1 a2 a3 a4 a5 a6 a7) := by
 intro a0 a1 a2 a3 a4 a5 a6 a7 k
 have ih0 := spec_RecordText.mono_l k
 unfold spec_RecordText.f
 with_reducible repeat' (first | apply ih0 | apply spec_RecordOk.mono | apply spec_l01Var.mono | exact LeO.refl _ | exact LeO.none _ | refine LeO.ite ?_ ?_ | refine LeO.bind ?_ (fun _ => ?_))
def spec_RecordText.T3 : Bool × List (List Nat × List Nat) := (true, [([], []), ([0], [0]), ([1], [1]), ([], []), ([3], [3]), ([4, 2], [4]), ([2, 5], [2, 5]), ([], []), ([7], [7]), ([8, 5], [8]), ([6, 9], [6, 9]), ([], []), ([11], [11]), ([12, 9], [12]), ([10, 13], [10, 13]), ([], []), ([15], [15]), ([16, 13], [16]), ([14, 17], [14, 17]), ([], []), ([19], [19]), ([20], [20]), ([21, 17], [21]), ([18, 22], [18, 22]), ([23, 22, 0, 1, 2, 3, 4, 5, 6, 7, 8, 9, 10, 11, 12, 13, 14, 15, 16, 17, 18, 19, 20, 21, 22, 23], [23])])
def spec_RecordText.B3 : List Nat := [0, 1, 3, 0, 8, 31, 63, 0, 128, 447, 1023, 0, 2048, 7103, 16383, 0, 32768, 113599, 262143, 0, 524288, 1572864, 3914687, 8388607, 16777215]
theorem spec_RecordText.tab3 : rtab .any (opsOf Try.f40 3) = spec_RecordText.T3 := by kernel_rfl
theorem spec_RecordText.bits3 : waitsOk spec_RecordText.T3.2 spec_RecordText.B3 = true := by kernel_rfl
def spec_RecordText.T7 : Bool × List (List Nat × List Nat) := (true, [([], []), ([], []), ([1], [1]), ([], []), ([2, 3], [2, 3]), ([4], [4]), ([5], [5]), ([6], [6]), ([0, 7], [0, 7]), ([], []), ([9], [9]), ([], []), ([10, 11], [10, 11]), ([12], [12]), ([13], [13]), ([14, 7], [14]), ([8, 15], [8, 15]), ([16, 15, 0, 1, 2, 3, 4, 5, 6, 7, 8, 9, 10, 11, 12, 13, 14, 15, 16], [0, 16])])
def spec_RecordText.B7 : List Nat := [0, 0, 2, 0, 14, 30, 62, 126, 255, 0, 512, 0, 3584, 7680, 15872, 32510, 65535, 131071]
theorem spec_RecordText.tab7 : rtab .any (opsOf Try.f40 7) = spec_RecordText.T7 := by kernel_rfl
theorem spec_RecordText.bits7 : waitsOk spec_RecordText.T7.2 spec_RecordText.B7 = true := by kernel_rfl
set_option maxHeartbeats 8000000 in
set_option maxRecDepth 100000 in
theorem spec_RecordText.calls (k : Nat) (Ai : Int) (Aj : Int) (Ak : Int) (Al : Int) (Am : Int) (Ax : Option Addr) (Av : Nat) (Ac : List (S63)) (An : Int) (Ap : Bool) (r1 : ByteArray) (r2 : Bool) (w : World) (hr0_5 : Kd.C k63 w Ax Ac.length Ac) (hc0_5 : Ac.length ≤ Av) (h : spec_RecordText.f k Ai Aj Ak Al Am Ac An Ap = some (r1, r2)) :
  Calls Try.prog 40 #[.agg #[.int .i64 Ai, .int .i64 Aj, .int .i64 Ak, .int .i64 Al, .int .i64 Am, .slice Ax Ac.length Av, .int .i64 An, .bool Ap]] w fun e w' => e = .returned (.tuple #[.string r1, .bool r2]) ∧ Below w.heap.size w w' := by
 have hu24 := Try.underlying24; have Bc := ak hr0_5; have Ca := ak hc0_5; clear hr0_5 hc0_5; have HB := ak (Below.refl w.heap.size w); have H := h
 clear h; unfold spec_RecordText.f at H; replace H := bsi H; obtain ⟨Bi, A20, H⟩ := H
 (try dsimp only at H)
 have A2 := ak A20; clear A20; have Da := ak H; clear H
 go_enter Try.func40, Try.ntmps40
 go_upto_if 8 with (first | ((with_reducible refine gate_dst (N := 1) rfl ?_); refine box_q 1 #[.int .i64 Ai, .int .i64 Aj, .int .i64 Ak, .int .i64 Al, .int .i64 Am, .slice Ax Ac.length Av, .int .i64 An, .bool Ap] 24 ?_; intro Ab hg w4 hbox hb; have Aa := ak (hbox); have Ey := gsz w (below_size (bw_q HB)) hg; have Ez := gsz w (below_size (bw_q HB)) hg; replace HB := ak (below_step (bw_q HB) hb); clear hb hbox hg; obtain ⟨Bj, Bk, Bl, Bm, Bn, Bo, Bp, Bq, Br, Bs, Bt, Bu, Bv, Bw, Bx, By⟩ := cf8_ Aa) | ((with_reducible refine gate_callee (f := 26) rfl ?_); refine goesL_ (some 7) rfl rfl Try.func26 (by kernel_rfl) rfl #[.agg #[.int .i64 Ai, .int .i64 Aj, .int .i64 Ak, .int .i64 Al, .int .i64 Am, .slice Ax Ac.length Av, .int .i64 An, .bool Ap]] rfl mp_q ?_; (with_reducible refine (spec_RecordOk.calls k Ai Aj Ak Al Am _ _ Ac An Ap Bi _ ?side1 ?side2 A2.out).mono ?_); (case side1 => exact cs_q (Kd.C_below Bc.out HB.out)); (case side2 => exact Ca.out); rintro e w6 ⟨rfl, hb⟩; refine ⟨_, rfl, ?_⟩; replace Aa := ak (blk_below (g := Ab) (bk_q Aa) hb); replace HB := ak (below_step (bw_q HB) hb)))
 have H := Da.out; clear Da
 by_cases c7 : Bi = true
 ·subst c7; rw [if_pos rfl] at H; replace H := bsi H; obtain ⟨Af, A80, H⟩ := H
  (try dsimp only at H)
  have A8 := ak A80; clear A80; replace H := bsi H; obtain ⟨Ag, A90, H⟩ := H
  (try dsimp only at H)
  have A9 := ak A90; clear A90
  by_cases c10 : Af.size + Ag.size ≤ 9223372036854775807
  ·rw [if_pos c10] at H; have Cb := eq_true c10
   have Cc : decide (Af.size + Ag.size ≤ 9223372036854775807) = true := decide_eq_true c10
   try have Bd : (9223372036854775807 < Af.size + Ag.size) = False := eq_false (Nat.not_lt.2 c10)
   try (have Cd := Bd; simp only [ByteArray.size_append] at Cd)
   replace H := bsi H; obtain ⟨Ah, A110, H⟩ := H
   (try dsimp only at H)
   have A11 := ak A110; clear A110
   by_cases c12 : (Af ++ Ag).size + Ah.size ≤ 9223372036854775807
   ·rw [if_pos c12] at H; have Ce := eq_true c12
    have Cf : decide ((Af ++ Ag).size + Ah.size ≤ 9223372036854775807) = true := decide_eq_true c12
    try have Be : (9223372036854775807 < (Af ++ Ag).size + Ah.size) = False := eq_false (Nat.not_lt.2 c12)
    try (have Cg := Be; simp only [ByteArray.size_append] at Cg)
    replace H := bsi H; obtain ⟨Ao, A130, H⟩ := H
    (try dsimp only at H)
    have A13 := ak A130; clear A130
    by_cases c14 : ((Af ++ Ag) ++ Ah).size + Ao.size ≤ 9223372036854775807
    ·rw [if_pos c14] at H; have Ch := eq_true c14
     have Ci : decide (((Af ++ Ag) ++ Ah).size + Ao.size ≤ 9223372036854775807) = true := decide_eq_true c14
     try have Bf : (9223372036854775807 < ((Af ++ Ag) ++ Ah).size + Ao.size) = False := eq_false (Nat.not_lt.2 c14)
     try (have Cj := Bf; simp only [ByteArray.size_append] at Cj)
     replace H := bsi H; obtain ⟨Ar, A150, H⟩ := H
     (try dsimp only at H)
     have A15 := ak A150; clear A150
     by_cases c16 : (((Af ++ Ag) ++ Ah) ++ Ao).size + Ar.size ≤ 9223372036854775807
     ·rw [if_pos c16] at H; have Ck := eq_true c16
      have Cl : decide ((((Af ++ Ag) ++ Ah) ++ Ao).size + Ar.size ≤ 9223372036854775807) = true := decide_eq_true c16
      try have Bg : (9223372036854775807 < (((Af ++ Ag) ++ Ah) ++ Ao).size + Ar.size) = False := eq_false (Nat.not_lt.2 c16)
      try (have Cm := Bg; simp only [ByteArray.size_append] at Cm)
      replace H := bsi H; obtain ⟨Az, A170, H⟩ := H
      (try dsimp only at H)
      have A17 := ak A170; clear A170
      by_cases c18 : ((((Af ++ Ag) ++ Ah) ++ Ao) ++ Ar).size + Az.size ≤ 9223372036854775807
      ·rw [if_pos c18] at H; have Cn := eq_true c18
       have Co : decide (((((Af ++ Ag) ++ Ah) ++ Ao) ++ Ar).size + Az.size ≤ 9223372036854775807) = true := decide_eq_true c18
       try have Bh : (9223372036854775807 < ((((Af ++ Ag) ++ Ah) ++ Ao) ++ Ar).size + Az.size) = False := eq_false (Nat.not_lt.2 c18)
       try (have Cp := Bh; simp only [ByteArray.size_append] at Cp)
       have H' := ak H; clear H
       try go_wp2
       replace Aa := ak (blk_drew Aa.out); replace HB := ak (below_drew1 HB.out)
       refine start_ (n := 25) (S := fun w' => w'.cell? ⟨Ab, 0, none⟩ = some (.int .i64 Ai) ∧ w'.cell? ⟨Ab, 1, none⟩ = some (.int .i64 Aj) ∧ w'.cell? ⟨Ab, 2, none⟩ = some (.int .i64 Ak) ∧ w'.cell? ⟨Ab, 3, none⟩ = some (.int .i64 Al) ∧ w'.cell? ⟨Ab, 4, none⟩ = some (.int .i64 Am) ∧ w'.cell? ⟨Ab, 5, none⟩ = some (.slice Ax Ac.length Av) ∧ w'.cell? ⟨Ab, 6, none⟩ = some (.int .i64 An) ∧ w'.cell? ⟨Ab, 7, none⟩ = some (.bool Ap)) (ds := []) (bL 25 0) (by kernel_rfl) rfl rfl (cz8_ Aa) (fun hHeld => ?_); refine with_tabW spec_RecordText.tab3 spec_RecordText.bits3 (fun HT_ HW_ => ?_)
       generalize w6.drew = w19 at Aa HB hHeld ⊢
       refine pq_ 0 9 (bL 25 1) HT_.out rfl rfl ?_
       refine pq_ 3 12 (bL 25 9) HT_.out rfl rfl ?_
       refine pq_ 7 16 (bL 25 137) HT_.out rfl rfl ?_
       refine pq_ 11 20 (bL 25 2185) HT_.out rfl rfl ?_
       refine pq_ 15 24 (bL 25 34953) HT_.out rfl rfl ?_
       refine pq_ 19 28 (bL 25 559241) HT_.out rfl rfl ?_
       refine take_ (i := 1) (N := some 10) (v := ?_) (a' := ?_) (bL 25 559243) rfl rfl (take_ofW HT_.out HW_.out (by kernel_rfl)) (fun _ _ _ h => h) (Or.inl ⟨by rfl, ?_⟩) hHeld ?_ ?_; rotate_left; (rintro w' ⟨s0, s1, s2, s3, s4, s5, s6, s7⟩; go_simp; with_reducible rfl); rotate_left; (exact put_q)
       refine take_ (i := 4) (N := some 13) (v := ?_) (a' := ?_) (bL 25 559259) rfl rfl (take_ofW HT_.out HW_.out (by kernel_rfl)) (fun _ _ _ h => h) (Or.inl ⟨by rfl, ?_⟩) hHeld ?_ ?_; rotate_left; (rintro w' ⟨s0, s1, s2, s3, s4, s5, s6, s7⟩; go_simp; with_reducible rfl); rotate_left; (exact put_q)
       refine take_ (i := 8) (N := some 17) (v := ?_) (a' := ?_) (bL 25 559515) rfl rfl (take_ofW HT_.out HW_.out (by kernel_rfl)) (fun _ _ _ h => h) (Or.inl ⟨by rfl, ?_⟩) hHeld ?_ ?_; rotate_left; (rintro w' ⟨s0, s1, s2, s3, s4, s5, s6, s7⟩; go_simp; with_reducible rfl); rotate_left; (exact put_q)
       refine take_ (i := 12) (N := some 21) (v := ?_) (a' := ?_) (bL 25 563611) rfl rfl (take_ofW HT_.out HW_.out (by kernel_rfl)) (fun _ _ _ h => h) (Or.inl ⟨by rfl, ?_⟩) hHeld ?_ ?_; rotate_left; (rintro w' ⟨s0, s1, s2, s3, s4, s5, s6, s7⟩; go_simp; with_reducible rfl); rotate_left; (exact put_q)
       refine take_ (i := 16) (N := some 25) (v := ?_) (a' := ?_) (bL 25 629147) rfl rfl (take_ofW HT_.out HW_.out (by kernel_rfl)) (fun _ _ _ h => h) (Or.inl ⟨by rfl, ?_⟩) hHeld ?_ ?_; rotate_left; (rintro w' ⟨s0, s1, s2, s3, s4, s5, s6, s7⟩; go_simp; with_reducible rfl); rotate_left; (exact put_q)
       refine take_ (i := 20) (N := some 29) (v := ?_) (a' := ?_) (bL 25 1677723) rfl rfl (take_ofW HT_.out HW_.out (by kernel_rfl)) (fun _ _ _ h => h) (Or.inl ⟨by rfl, ?_⟩) hHeld ?_ ?_; rotate_left; (rintro w' ⟨s0, s1, s2, s3, s4, s5, s6, s7⟩; go_simp; with_reducible rfl); rotate_left; (exact put_q)
       refine pq_ 21 30 (bL 25 3774875) HT_.out rfl rfl ?_
       refine one_ (i := 2) (N := some 11) (bL 25 3774879) rfl rfl (one_of HT_.out (by kernel_rfl)) (by decide) (fun K hK => ?_)
       refine goes_ Try.func48 (by kernel_rfl) rfl #[.int .i64 Ai] (by rfl) rfl rfl mp_q ?_
       with_reducible refine (spec_l04Byte.calls Ai Af _ A8.out).mono ?_
       rintro e w20 ⟨rfl, hb⟩
       refine ⟨_, rfl, ?_⟩
       replace Aa := ak (blk_below (g := Ab) (bk_q Aa) hb); replace HB := ak (below_step (bw_q HB) hb)
       refine hK.out _ _ (cz8_ Aa) (fun hHeld => ?_)
       clear hK K
       refine norm_ (a' := ?_) ?_ ?_; rotate_left; (show Act.put _ (some 11) _ = _; simp only [Act.put, List.setIfInBounds_toArray, List.set_cons_zero, List.set_cons_succ, i64_w, i32_w]; rfl)
       refine one_ (i := 5) (N := some 14) (bL 25 3774911) rfl rfl (one_of HT_.out (by kernel_rfl)) (by decide) (fun K hK => ?_)
       refine goes_ Try.func48 (by kernel_rfl) rfl #[.int .i64 Aj] (by rfl) rfl rfl mp_q ?_
       with_reducible refine (spec_l04Byte.calls Aj Ag _ A9.out).mono ?_
       rintro e w21 ⟨rfl, hb⟩
       refine ⟨_, rfl, ?_⟩
       replace Aa := ak (blk_below (g := Ab) (bk_q Aa) hb); replace HB := ak (below_step (bw_q HB) hb)
       refine hK.out _ _ (cz8_ Aa) (fun hHeld => ?_)
       clear hK K
       refine norm_ (a' := ?_) ?_ ?_; rotate_left; (show Act.put _ (some 14) _ = _; simp only [Act.put, List.setIfInBounds_toArray, List.set_cons_zero, List.set_cons_succ, i64_w, i32_w]; rfl)
       refine pq_ 6 15 (bL 25 3774975) HT_.out rfl rfl ?_
       refine one_ (i := 9) (N := some 18) (bL 25 3775487) rfl rfl (one_of HT_.out (by kernel_rfl)) (by decide) (fun K hK => ?_)
       refine goes_ Try.func48 (by kernel_rfl) rfl #[.int .i64 Ak] (by rfl) rfl rfl mp_q ?_
       with_reducible refine (spec_l04Byte.calls Ak Ah _ A11.out).mono ?_
       rintro e w22 ⟨rfl, hb⟩
       refine ⟨_, rfl, ?_⟩
       replace Aa := ak (blk_below (g := Ab) (bk_q Aa) hb); replace HB := ak (below_step (bw_q HB) hb)
       refine hK.out _ _ (cz8_ Aa) (fun hHeld => ?_)
       clear hK K
       refine norm_ (a' := ?_) ?_ ?_; rotate_left; (show Act.put _ (some 18) _ = _; simp only [Act.put, List.setIfInBounds_toArray, List.set_cons_zero, List.set_cons_succ, i64_w, i32_w]; rfl)
       refine pq_ 10 19 (bL 25 3776511) HT_.out rfl rfl ?_
       refine one_ (i := 13) (N := some 22) (bL 25 3784703) rfl rfl (one_of HT_.out (by kernel_rfl)) (by decide) (fun K hK => ?_)
       refine goes_ Try.func48 (by kernel_rfl) rfl #[.int .i64 Al] (by rfl) rfl rfl mp_q ?_
       with_reducible refine (spec_l04Byte.calls Al Ao _ A13.out).mono ?_
       rintro e w23 ⟨rfl, hb⟩
       refine ⟨_, rfl, ?_⟩
       replace Aa := ak (blk_below (g := Ab) (bk_q Aa) hb); replace HB := ak (below_step (bw_q HB) hb)
       refine hK.out _ _ (cz8_ Aa) (fun hHeld => ?_)
       clear hK K
       refine norm_ (a' := ?_) ?_ ?_; rotate_left; (show Act.put _ (some 22) _ = _; simp only [Act.put, List.setIfInBounds_toArray, List.set_cons_zero, List.set_cons_succ, i64_w, i32_w]; rfl)
       refine pq_ 14 23 (bL 25 3801087) HT_.out rfl rfl ?_
       refine one_ (i := 17) (N := some 26) (bL 25 3932159) rfl rfl (one_of HT_.out (by kernel_rfl)) (by decide) (fun K hK => ?_)
       refine goes_ Try.func49 (by kernel_rfl) rfl #[.int .i64 Am] (by rfl) rfl rfl mp_q ?_
       with_reducible refine (spec_l01Var.calls k Am Ar _ A15.out).mono ?_
       rintro e w24 ⟨rfl, hb⟩
       refine ⟨_, rfl, ?_⟩
       replace Aa := ak (blk_below (g := Ab) (bk_q Aa) hb); replace HB := ak (below_step (bw_q HB) hb)
       refine hK.out _ _ (cz8_ Aa) (fun hHeld => ?_)
       clear hK K
       refine norm_ (a' := ?_) ?_ ?_; rotate_left; (show Act.put _ (some 26) _ = _; simp only [Act.put, List.setIfInBounds_toArray, List.set_cons_zero, List.set_cons_succ, i64_w, i32_w]; rfl)
       refine pq_ 18 27 (bL 25 4194303) HT_.out rfl rfl ?_
       refine one_ (i := 22) (N := some 31) (bL 25 8388607) rfl rfl (one_of HT_.out (by kernel_rfl)) (by decide) (fun K hK => ?_)
       refine goes_ Try.func49 (by kernel_rfl) rfl #[.int .i64 (Ac.length : Int)] (by rfl) rfl rfl mp_q ?_
       with_reducible refine (spec_l01Var.calls k (Ac.length : Int) Az _ A17.out).mono ?_
       rintro e w25 ⟨rfl, hb⟩
       refine ⟨_, rfl, ?_⟩
       replace Aa := ak (blk_below (g := Ab) (bk_q Aa) hb); replace HB := ak (below_step (bw_q HB) hb)
       refine hK.out _ _ (cz8_ Aa) (fun hHeld => ?_)
       clear hK K
       refine norm_ (a' := ?_) ?_ ?_; rotate_left; (show Act.put _ (some 31) _ = _; simp only [Act.put, List.setIfInBounds_toArray, List.set_cons_zero, List.set_cons_succ, i64_w, i32_w]; rfl)
       refine pq_ 23 32 (bL 25 16777215) HT_.out rfl rfl ?_
       refine pq_ 24 4 (bL 25 33554431) HT_.out rfl rfl ?_
       refine done_ (done_of HT_.out (by kernel_rfl)) ?_
       try go_wp2
       go_loopg [4, 5] k (fun kq v4 v5 w' => ∃ (Ae : ByteArray) (Ad : Int), v4 = .string Ae ∧ v5 = .int .i64 Ad ∧ Aside0 (spec_RecordText.l0 kq Ae Ad Ai Aj Ak Al Am Ac An Ap = some (r1, r2)) ∧ Aside0 (kq ≤ k) ∧ Aside0 (w'.heap[Ab]? = some (.cells #[.int .i64 Ai, .int .i64 Aj, .int .i64 Ak, .int .i64 Al, .int .i64 Am, (.slice Ax Ac.length Av), .int .i64 An, .bool Ap] 24 (0, 0))) ∧ Aside0 (Below w.heap.size w w'))
       case atStart => exact ⟨(((((Af ++ Ag) ++ Ah) ++ Ao) ++ Ar) ++ Az), (0), rs_q, rs_q, H', ⟨Nat.le_refl _⟩, ⟨bk_q Aa⟩, ⟨bw_q HB⟩⟩
       case round =>
        clear H'; (try clear c1); (try clear c2); (try clear p2); (try clear c4); (try clear c7); (try clear c10); (try clear Cb); (try clear Cc); (try clear Bd); (try clear c12); (try clear Ce); (try clear Cf); (try clear Be); (try clear c14); (try clear Ch); (try clear Ci); (try clear Bf); (try clear c16); (try clear Ck); (try clear Cl); (try clear Bg); (try clear c18); (try clear Cn); (try clear Co); (try clear Bh)
        try clear Bj Bk Bl Bm Bn Bo Bp Bq
        try clear Br Bs Bt Bu Bv Bw Bx By
        obtain ⟨Ae, Ad, rfl, rfl, HA, Db, Aa, HB⟩ := hrel
        cases gk with
        | zero => exact absurd HA.out (by simp [spec_RecordText.l0])
        | succ k1 =>
         have H := HA.out; clear HA
         simp only [spec_RecordText.l0] at H
         by_cases c26 : Ad < (Ac.length : Int)
         ·rw [if_pos c26] at H
          have Aw : decide (Ad < (Ac.length : Int)) = true := decide_eq_true c26
          clear c26
          (first | rw [Aw] | rw [Bb] | (simp only [i64_w, i32_w]; first | rw [Aw] | rw [Bb]) | skip)
          by_cases c27 : 0 ≤ Ad
          ·rw [if_pos c27] at H
           have Fa : decide (0 ≤ Ad) = true := decide_eq_true c27
           clear c27; replace H := bsi H; obtain ⟨As, A280, H⟩ := H
           (try dsimp only at H)
           have A28 := ak A280; clear A280
           by_cases c29 : Ae.size + As.size ≤ 9223372036854775807
           ·rw [if_pos c29] at H; have Fb := eq_true c29
            have Fc : decide (Ae.size + As.size ≤ 9223372036854775807) = true := decide_eq_true c29
            try have Cq : (9223372036854775807 < Ae.size + As.size) = False := eq_false (Nat.not_lt.2 c29)
            try (have Cr := Cq; simp only [ByteArray.size_append] at Cr)
            replace H := bsi H; obtain ⟨Ba, A300, H⟩ := H
            (try dsimp only at H)
            have A30 := ak A300; clear A300
            by_cases c31 : (Ae ++ As).size + Ba.size ≤ 9223372036854775807
            ·rw [if_pos c31] at H; have Fd := eq_true c31
             have Fe : decide ((Ae ++ As).size + Ba.size ≤ 9223372036854775807) = true := decide_eq_true c31
             try have Cs : (9223372036854775807 < (Ae ++ As).size + Ba.size) = False := eq_false (Nat.not_lt.2 c31)
             try (have Ct := Cs; simp only [ByteArray.size_append] at Ct)
             have H' := ak H; clear H; obtain ⟨Dc, Dd, De, Df, Dg, Dh, Di, Dj, Dk, Dl, Dm, Dn, Do, Dp, Dq, Dr⟩ := cf8_ Aa
             try go_wp2
             replace Aa := ak (blk_drew Aa.out); replace HB := ak (below_drew1 HB.out)
             have p388 : 0 ≤ (Ad : Int) := of_decide_eq_true as_q
             have q388 : Ad < (Ac.length : Int) := of_decide_eq_true as_q
             obtain ⟨Ay, e388, At, Au⟩ := at_T63 Bc.out Ad p388 q388; have hw388_1 := Au; have hw388_0 := At
             cases e388
             replace At := hbc HB At; replace Au := hbc HB Au; replace p388 := eq_true p388; replace q388 := eq_true q388
             refine start_ (n := 18) (S := fun w' => w'.cell? ⟨Ab, 0, none⟩ = some (.int .i64 Ai) ∧ w'.cell? ⟨Ab, 1, none⟩ = some (.int .i64 Aj) ∧ w'.cell? ⟨Ab, 2, none⟩ = some (.int .i64 Ak) ∧ w'.cell? ⟨Ab, 3, none⟩ = some (.int .i64 Al) ∧ w'.cell? ⟨Ab, 4, none⟩ = some (.int .i64 Am) ∧ w'.cell? ⟨Ab, 5, none⟩ = some (.slice (some Ay) Ac.length Av) ∧ w'.cell? ⟨Ab, 6, none⟩ = some (.int .i64 An) ∧ w'.cell? ⟨Ab, 7, none⟩ = some (.bool Ap) ∧ w'.cell? (Ay.add ((Ad).toNat * 2)) = some (.int .i64 ((rd_T63 Ac Ad).f0)) ∧ w'.cell? ⟨(Ay.add ((Ad).toNat * 2)).block, (Ay.add ((Ad).toNat * 2)).off + 1, none⟩ = some (.int .i64 ((rd_T63 Ac Ad).f1))) (ds := []) (bL 18 0) (by kernel_rfl) rfl rfl ⟨(blk_cell Aa.out 0).trans rfl, (blk_cell Aa.out 1).trans rfl, (blk_cell Aa.out 2).trans rfl, (blk_cell Aa.out 3).trans rfl, (blk_cell Aa.out 4).trans rfl, (blk_cell Aa.out 5).trans rfl, (blk_cell Aa.out 6).trans rfl, (blk_cell Aa.out 7).trans rfl, ((HB.out.cell (World.block_lt_of_cell? w _ hw388_0)).trans hw388_0), ((HB.out.cell (World.block_lt_of_cell? w _ hw388_1)).trans hw388_1)⟩ (fun hHeld => ?_); refine with_tabW spec_RecordText.tab7 spec_RecordText.bits7 (fun HT_ HW_ => ?_)
             generalize wr.drew = w33 at Aa HB At Au hHeld ⊢
             refine pq_ 0 40 (bL 18 1) HT_.out rfl rfl ?_
             refine pq_ 1 41 (bL 18 3) HT_.out rfl rfl ?_
             refine pq_ 3 43 (bL 18 11) HT_.out rfl rfl ?_
             refine pq_ 9 49 (bL 18 523) HT_.out rfl rfl ?_
             refine pq_ 11 51 (bL 18 2571) HT_.out rfl rfl ?_
             refine take_ (i := 2) (N := some 42) (v := ?_) (a' := ?_) (bL 18 2575) rfl rfl (take_ofW HT_.out HW_.out (by kernel_rfl)) (fun _ _ _ h => h) (Or.inl ⟨by rfl, ?_⟩) hHeld ?_ ?_; rotate_left; (rintro w' ⟨s0, s1, s2, s3, s4, s5, s6, s7, s8, s9⟩; go_simp; with_reducible rfl); rotate_left; (exact put_q)
             refine pq_ 4 44 (bL 18 2591) HT_.out rfl rfl ?_
             refine pq_ 5 45 (bL 18 2623) HT_.out rfl rfl ?_
             refine take_ (i := 6) (N := some 46) (v := ?_) (a' := ?_) (bL 18 2687) rfl rfl (take_ofW HT_.out HW_.out (by kernel_rfl)) (fun _ _ _ h => h) (Or.inl ⟨by rfl, ?_⟩) hHeld ?_ ?_; rotate_left; (rintro w' ⟨s0, s1, s2, s3, s4, s5, s6, s7, s8, s9⟩; go_simp; with_reducible rfl); rotate_left; (exact put_q)
             refine take_ (i := 10) (N := some 50) (v := ?_) (a' := ?_) (bL 18 3711) rfl rfl (take_ofW HT_.out HW_.out (by kernel_rfl)) (fun _ _ _ h => h) (Or.inl ⟨by rfl, ?_⟩) hHeld ?_ ?_; rotate_left; (rintro w' ⟨s0, s1, s2, s3, s4, s5, s6, s7, s8, s9⟩; go_simp; with_reducible rfl); rotate_left; (exact put_q)
             refine pq_ 12 52 (bL 18 7807) HT_.out rfl rfl ?_
             refine pq_ 13 53 (bL 18 15999) HT_.out rfl rfl ?_
             refine take_ (i := 14) (N := some 54) (v := ?_) (a' := ?_) (bL 18 32383) rfl rfl (take_ofW HT_.out HW_.out (by kernel_rfl)) (fun _ _ _ h => h) (Or.inl ⟨by rfl, ?_⟩) hHeld ?_ ?_; rotate_left; (rintro w' ⟨s0, s1, s2, s3, s4, s5, s6, s7, s8, s9⟩; go_simp; with_reducible rfl); rotate_left; (exact put_q)
             refine one_ (i := 7) (N := some 47) (bL 18 32511) rfl rfl (one_of HT_.out (by kernel_rfl)) (by decide) (fun K hK => ?_)
             refine goes_ Try.func48 (by kernel_rfl) rfl #[.int .i64 ((rd_T63 Ac Ad).f0)] (by rfl) rfl rfl mp_q ?_
             with_reducible refine (spec_l04Byte.calls ((rd_T63 Ac Ad).f0) As _ A28.out).mono ?_
             rintro e w34 ⟨rfl, hb⟩
             refine ⟨_, rfl, ?_⟩
             replace Aa := ak (blk_below (g := Ab) (bk_q Aa) hb); replace HB := ak (below_step (bw_q HB) hb)
             refine hK.out _ _ ⟨(blk_cell Aa.out 0).trans rfl, (blk_cell Aa.out 1).trans rfl, (blk_cell Aa.out 2).trans rfl, (blk_cell Aa.out 3).trans rfl, (blk_cell Aa.out 4).trans rfl, (blk_cell Aa.out 5).trans rfl, (blk_cell Aa.out 6).trans rfl, (blk_cell Aa.out 7).trans rfl, ((HB.out.cell (World.block_lt_of_cell? w _ hw388_0)).trans hw388_0), ((HB.out.cell (World.block_lt_of_cell? w _ hw388_1)).trans hw388_1)⟩ (fun hHeld => ?_)
             clear hK K
             refine norm_ (a' := ?_) ?_ ?_; rotate_left; (show Act.put _ (some 47) _ = _; simp only [Act.put, List.setIfInBounds_toArray, List.set_cons_zero, List.set_cons_succ, i64_w, i32_w]; rfl)
             refine pq_ 8 48 (bL 18 32767) HT_.out rfl rfl ?_
             refine one_ (i := 15) (N := some 55) (bL 18 65535) rfl rfl (one_of HT_.out (by kernel_rfl)) (by decide) (fun K hK => ?_)
             refine goes_ Try.func49 (by kernel_rfl) rfl #[.int .i64 ((rd_T63 Ac Ad).f1)] (by rfl) rfl rfl mp_q ?_
             with_reducible refine (spec_l01Var.calls k1 ((rd_T63 Ac Ad).f1) Ba _ A30.out).mono ?_
             rintro e w35 ⟨rfl, hb⟩
             refine ⟨_, rfl, ?_⟩
             replace Aa := ak (blk_below (g := Ab) (bk_q Aa) hb); replace HB := ak (below_step (bw_q HB) hb)
             refine hK.out _ _ ⟨(blk_cell Aa.out 0).trans rfl, (blk_cell Aa.out 1).trans rfl, (blk_cell Aa.out 2).trans rfl, (blk_cell Aa.out 3).trans rfl, (blk_cell Aa.out 4).trans rfl, (blk_cell Aa.out 5).trans rfl, (blk_cell Aa.out 6).trans rfl, (blk_cell Aa.out 7).trans rfl, ((HB.out.cell (World.block_lt_of_cell? w _ hw388_0)).trans hw388_0), ((HB.out.cell (World.block_lt_of_cell? w _ hw388_1)).trans hw388_1)⟩ (fun hHeld => ?_)
             clear hK K
             refine norm_ (a' := ?_) ?_ ?_; rotate_left; (show Act.put _ (some 55) _ = _; simp only [Act.put, List.setIfInBounds_toArray, List.set_cons_zero, List.set_cons_succ, i64_w, i32_w]; rfl)
             refine pq_ 16 56 (bL 18 131071) HT_.out rfl rfl ?_
             refine pq_ 17 4 (bL 18 262143) HT_.out rfl rfl ?_
             refine done_ (done_of HT_.out (by kernel_rfl)) ?_
             try go_wp2
             go_roundg k1
             case measure => have := Db.out; omega
             case rel => exact ⟨((Ae ++ As) ++ Ba), (wrap64 (Ad + 1)), rs_q, rs_q, H', ⟨by have := Db.out; omega⟩, ⟨bk_q Aa⟩, ⟨bw_q HB⟩⟩
            ·rw [if_neg c31] at H
             exact absurd H (by simp)
           ·rw [if_neg c29] at H
            exact absurd H (by simp)
          ·rw [if_neg c27] at H
           exact absurd H (by simp)
         ·rw [if_neg c26] at H
          have Aw : decide (Ad < (Ac.length : Int)) = false := decide_eq_false c26
          clear c26
          (first | rw [Aw] | rw [Bb] | (simp only [i64_w, i32_w]; first | rw [Aw] | rw [Bb]) | skip)
          replace H := bsi H; obtain ⟨Aq, A360, H⟩ := H
          (try dsimp only at H)
          have A36 := ak A360; clear A360
          by_cases c37 : Ae.size + Aq.size ≤ 9223372036854775807
          ·rw [if_pos c37] at H; have Ff := eq_true c37
           have Fg : decide (Ae.size + Aq.size ≤ 9223372036854775807) = true := decide_eq_true c37
           try have Cu : (9223372036854775807 < Ae.size + Aq.size) = False := eq_false (Nat.not_lt.2 c37)
           try (have Cv := Cu; simp only [ByteArray.size_append] at Cv)
           have Bz := ak H; clear H; obtain ⟨Ds, Dt, Du, Dv, Dw, Dx, Dy, Dz, Ea, Eb, Ec, Ed, Ee, Ef, Eg, Eh⟩ := cf8_ Aa
           go_upto_if 63 with (first | ((with_reducible refine gate_callee (f := 49) rfl ?_); refine goesL_ (some 60) rfl rfl Try.func49 (by kernel_rfl) rfl #[.int .i64 An] rfl mp_q ?_; (with_reducible refine (spec_l01Var.calls k1 An Aq _ A36.out).mono ?_); rintro e w40 ⟨rfl, hb⟩; refine ⟨_, rfl, ?_⟩; replace Aa := ak (blk_below (g := Ab) (bk_q Aa) hb); replace HB := ak (below_step (bw_q HB) hb); obtain ⟨Ei, Ej, Ek, El, Em, En, Eo, Ep, Eq, Er, Es, Et, Eu, Ev, Ew, Ex⟩ := cf8_ Aa))
           have H := Bz.out; clear Bz
           by_cases c42 : Ap = true
           ·subst c42; rw [if_pos rfl] at H
            by_cases c43 : (Ae ++ Aq).size + 1 ≤ 9223372036854775807
            ·rw [if_pos c43] at H; have Fh := eq_true c43
             have Fi : decide ((Ae ++ Aq).size + 1 ≤ 9223372036854775807) = true := decide_eq_true c43
             try have Cw : (9223372036854775807 < (Ae ++ Aq).size + 1) = False := eq_false (Nat.not_lt.2 c43)
             try (have Cx := Cw; simp only [ByteArray.size_append] at Cx)
             simp only [Option.some.injEq, Prod.mk.injEq] at H
             obtain ⟨rfl, rfl⟩ := H
             go_wp2
             go_ret2
             exact ⟨er_q, bw_q HB⟩
            ·rw [if_neg c43] at H
             exact absurd H (by simp)
           ·replace c42 := Bool.eq_false_iff.mpr c42; subst c42
            rw [if_neg (show ¬ (false = true) by decide)] at H
            by_cases c44 : (Ae ++ Aq).size + 1 ≤ 9223372036854775807
            ·rw [if_pos c44] at H; have Fj := eq_true c44
             have Fk : decide ((Ae ++ Aq).size + 1 ≤ 9223372036854775807) = true := decide_eq_true c44
             try have Cy : (9223372036854775807 < (Ae ++ Aq).size + 1) = False := eq_false (Nat.not_lt.2 c44)
             try (have Cz := Cy; simp only [ByteArray.size_append] at Cz)
             simp only [Option.some.injEq, Prod.mk.injEq] at H
             obtain ⟨rfl, rfl⟩ := H
             go_wp2
             go_ret2
             exact ⟨er_q, bw_q HB⟩
            ·rw [if_neg c44] at H
             exact absurd H (by simp)
          ·rw [if_neg c37] at H
           exact absurd H (by simp)
      ·rw [if_neg c18] at H
       exact absurd H (by simp)
     ·rw [if_neg c16] at H
      exact absurd H (by simp)
    ·rw [if_neg c14] at H
     exact absurd H (by simp)
   ·rw [if_neg c12] at H
    exact absurd H (by simp)
  ·rw [if_neg c10] at H
   exact absurd H (by simp)
 ·replace c7 := Bool.eq_false_iff.mpr c7; subst c7
  rw [if_neg (show ¬ (false = true) by decide)] at H
  simp only [Option.some.injEq, Prod.mk.injEq] at H
  obtain ⟨rfl, rfl⟩ := H
  go_wp2
  go_ret2
  exact ⟨er_q, bw_q HB⟩

end Go.Proofs.Ytnecbkognpponaa.Q
