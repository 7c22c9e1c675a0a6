import Derived.Test.YthjmdiggglkeaaaXFnStoresQimplnearOk
import Derived.Test.YthjmdiggglkeaaaXFnStoresQimplcopyRecords
import Derived.Test.YthjmdiggglkeaaaXFnStoresQimplInstall
/- A Go function as a Lean function, and its contract: for every input the Go code comes to what the Lean function tells. -/



namespace Go.Proofs.Ythjmdiggglkeaaa.Q
open Go.RowKit Go.Proofs.YthjmdiggglkeaaaW.PrintWords Go.Proofs.YthjmdiggglkeaaaW.PrintLast Go.Proofs.YthjmdiggglkeaaaW.PrintMore
attribute [local go_sem] max2_int min2_int max_two min_two max_three min_three max_four min_four   -- for this text's walks alone
set_option linter.unusedVariables false
set_option linter.unusedSimpArgs false

/-! ### impl_Find: function 37 -/
def impl_Find.f (k : Nat) (l0 : List (S61)) (a1_0 : Int) (a1_1 : Int) (a1_2 : Int) (a1_3 : Int) (a1_4 : Int) (l1_5 : List (S127)) (a1_6 : Int) (a1_7 : Bool) : Option (Int × Int × Int × Int × Int × (List (S127)) × Int × Bool × Bool) := (impl_keyAt.f k l0 a1_0 a1_1 a1_2 a1_3 a1_4 l1_5 a1_6 a1_7).bind fun t899 => (if t899 < 0 then (some (0, 0, 0, 0, 0, ([] : List (S127)), 0, false, false)) else (if 0 ≤ t899 then (if t899 < (l0.length : Int) then ((impl_copyRecord.f ((rd_T61 l0 t899).f0) ((rd_T61 l0 t899).f1) ((rd_T61 l0 t899).f2) ((rd_T61 l0 t899).f3) ((rd_T61 l0 t899).f4) ((rd_T61 l0 t899).f5) ((rd_T61 l0 t899).f6) ((rd_T61 l0 t899).f7)).bind fun bt901 => (some (bt901.1, bt901.2.1, bt901.2.2.1, bt901.2.2.2.1, bt901.2.2.2.2.1, bt901.2.2.2.2.2.1, bt901.2.2.2.2.2.2.1, bt901.2.2.2.2.2.2.2, true))) else (none)) else (none)))
theorem impl_Find.mono : ∀ a0 a1 a2 a3 a4 a5 a6 a7 a8 k, LeO (impl_Find.f k a0 a1 a2 a3 a4 a5 a6 a7 a8) (impl_Find.f (k + 1) a0 a1 a2 a3 a4 a5 a6 a7 a8) := by
 intro a0 a1 a2 a3 a4 a5 a6 a7 a8 k
 unfold impl_Find.f
 repeat' first
   | (with_reducible exact impl_keyAt.mono _ _ _ _ _ _ _ _ _ _)
   | (with_reducible exact LeO.refl _)
   | (with_reducible exact LeO.none _)
   | (with_reducible refine LeO.ite ?_ ?_)
   | (with_reducible refine LeO.bind ?_ (fun _ => ?_))
   | exact impl_keyAt.mono _ _ _ _ _ _ _ _ _ _
   | exact LeO.none _
   | refine LeO.ite ?_ ?_
   | refine LeO.bind ?_ (fun _ => ?_)
set_option maxHeartbeats 8000000 in
set_option maxRecDepth 100000 in
theorem impl_Find.calls (k : Nat) (A0 : Option Addr) (c0 : Nat) (l0 : List (S61)) (a1_0 : Int) (a1_1 : Int) (a1_2 : Int) (a1_3 : Int) (a1_4 : Int) (A1_5 : Option Addr) (c1_5 : Nat) (l1_5 : List (S127)) (a1_6 : Int) (a1_7 : Bool) (r1 : Int) (r2 : Int) (r3 : Int) (r4 : Int) (r5 : Int) (r6 : List (S127)) (r7 : Int) (r8 : Bool) (r9 : Bool) (w : World) (hr0 : Kd.C k61 w A0 l0.length l0) (hc0 : l0.length ≤ c0) (hr1_5 : Kd.C k127 w A1_5 l1_5.length l1_5) (hc1_5 : l1_5.length ≤ c1_5) (h : impl_Find.f k l0 a1_0 a1_1 a1_2 a1_3 a1_4 l1_5 a1_6 a1_7 = some (r1, r2, r3, r4, r5, r6, r7, r8, r9)) :
  Calls Try.prog 37 #[.slice A0 l0.length c0, .agg #[.int .i64 a1_0, .int .i64 a1_1, .int .i64 a1_2, .int .i64 a1_3, .int .i64 a1_4, .slice A1_5 l1_5.length c1_5, .int .i64 a1_6, .bool a1_7]] w fun e w' => ∃ v5_ : Value, e = .returned (.tuple #[.agg #[.int .i64 r1, .int .i64 r2, .int .i64 r3, .int .i64 r4, .int .i64 r5, v5_, .int .i64 r7, .bool r8], .bool r9]) ∧ Kd.R k127 127 w' w.heap.size (fun _ => True) v5_ r6 ∧ Below w.heap.size w w' := by
 have hu61 := Try.underlying61
 have HR0 := Aside0.mk hr0
 have HC0 := Aside0.mk hc0
 clear hr0 hc0
 have HR1_5 := Aside0.mk hr1_5
 have HC1_5 := Aside0.mk hc1_5
 clear hr1_5 hc1_5
 have HB := Aside0.mk (Below.refl w.heap.size w)
 have H : ((impl_keyAt.f k l0 a1_0 a1_1 a1_2 a1_3 a1_4 l1_5 a1_6 a1_7).bind fun t899 => (if t899 < 0 then (some (0, 0, 0, 0, 0, ([] : List (S127)), 0, false, false)) else (if 0 ≤ t899 then (if t899 < (l0.length : Int) then ((impl_copyRecord.f ((rd_T61 l0 t899).f0) ((rd_T61 l0 t899).f1) ((rd_T61 l0 t899).f2) ((rd_T61 l0 t899).f3) ((rd_T61 l0 t899).f4) ((rd_T61 l0 t899).f5) ((rd_T61 l0 t899).f6) ((rd_T61 l0 t899).f7)).bind fun bt901 => (some (bt901.1, bt901.2.1, bt901.2.2.1, bt901.2.2.2.1, bt901.2.2.2.2.1, bt901.2.2.2.2.2.1, bt901.2.2.2.2.2.2.1, bt901.2.2.2.2.2.2.2, true))) else (none)) else (none)))) = some (r1, r2, r3, r4, r5, r6, r7, r8, r9) := h
 clear h
 replace H := Option.bind_eq_some_iff.mp H
 obtain ⟨t899, A30, H⟩ := H
 replace H : (if t899 < 0 then (some (0, 0, 0, 0, 0, ([] : List (S127)), 0, false, false)) else (if 0 ≤ t899 then (if t899 < (l0.length : Int) then ((impl_copyRecord.f ((rd_T61 l0 t899).f0) ((rd_T61 l0 t899).f1) ((rd_T61 l0 t899).f2) ((rd_T61 l0 t899).f3) ((rd_T61 l0 t899).f4) ((rd_T61 l0 t899).f5) ((rd_T61 l0 t899).f6) ((rd_T61 l0 t899).f7)).bind fun bt901 => (some (bt901.1, bt901.2.1, bt901.2.2.1, bt901.2.2.2.1, bt901.2.2.2.2.1, bt901.2.2.2.2.2.1, bt901.2.2.2.2.2.2.1, bt901.2.2.2.2.2.2.2, true))) else (none)) else (none))) = some (r1, r2, r3, r4, r5, r6, r7, r8, r9) := H
 have A3 := Aside0.mk A30
 clear A30
 have HC4 := Aside0.mk H
 clear H
 go_enter Try.func37, Try.ntmps37
 go_upto_if 11 with (first | ((with_reducible refine gate_dst (N := 3) rfl ?_); refine box_q 3 #[.int .i64 a1_0, .int .i64 a1_1, .int .i64 a1_2, .int .i64 a1_3, .int .i64 a1_4, .slice A1_5 l1_5.length c1_5, .int .i64 a1_6, .bool a1_7] 61 ?_; intro gb897 hg w5 hbox hb; have BK897 := Aside0.mk (hbox); have GW897 := Aside0.mk ((by rw [hg]; exact (below_size (bw_q HB)) : w.heap.size ≤ gb897)); have GE897 := Aside0.mk ((by rw [hg]; exact (below_size (bw_q HB)) : w.heap.size ≤ gb897)); replace HB := Aside0.mk (below_step (bw_q HB) hb); clear hb hbox hg) | ((with_reducible refine gate_dst (N := 4) rfl ?_); refine box_q 4 #[.int .i64 0, .int .i64 0, .int .i64 0, .int .i64 0, .int .i64 0, .slice none 0 0, .int .i64 0, .bool false] 61 ?_; intro gb898 hg w6 hbox hb; have BK898 := Aside0.mk (hbox); have GW898 := Aside0.mk ((by rw [hg]; exact (below_size (bw_q HB)) : w.heap.size ≤ gb898)); have GE898 := Aside0.mk ((by rw [hg]; exact (below_size (bw_q HB)) : w.heap.size ≤ gb898)); replace HB := Aside0.mk (below_step (bw_q HB) hb); have NB897_898 := Aside0.mk ((by rw [hg]; exact Nat.ne_of_lt (blk_lt (g := gb897) (o := .cells #[.int .i64 a1_0, .int .i64 a1_1, .int .i64 a1_2, .int .i64 a1_3, .int .i64 a1_4, .slice A1_5 l1_5.length c1_5, .int .i64 a1_6, .bool a1_7] 61 (0, 0)) (bk_q BK897)) : gb897 ≠ gb898)); have NB898_897 := Aside0.mk ((by rw [hg]; exact Nat.ne_of_gt (blk_lt (g := gb897) (o := .cells #[.int .i64 a1_0, .int .i64 a1_1, .int .i64 a1_2, .int .i64 a1_3, .int .i64 a1_4, .slice A1_5 l1_5.length c1_5, .int .i64 a1_6, .bool a1_7] 61 (0, 0)) (bk_q BK897)) : gb898 ≠ gb897)); replace BK897 := Aside0.mk (blk_below (g := gb897) (bk_q BK897) hb); clear hb hbox hg; have hnb7 := NB897_898.out; have hnc7 := NB898_897.out; have hcz8_0 : w6.cell? ⟨gb897, 0, none⟩ = some (.int .i64 a1_0) := (blk_cell BK897.out 0).trans rfl; have hcz8_1 : w6.cell? ⟨gb897, 1, none⟩ = some (.int .i64 a1_1) := (blk_cell BK897.out 1).trans rfl; have hcz8_2 : w6.cell? ⟨gb897, 2, none⟩ = some (.int .i64 a1_2) := (blk_cell BK897.out 2).trans rfl; have hcz8_3 : w6.cell? ⟨gb897, 3, none⟩ = some (.int .i64 a1_3) := (blk_cell BK897.out 3).trans rfl; have hcz8_4 : w6.cell? ⟨gb897, 4, none⟩ = some (.int .i64 a1_4) := (blk_cell BK897.out 4).trans rfl; have hcz8_5 : w6.cell? ⟨gb897, 5, none⟩ = some (.slice A1_5 l1_5.length c1_5) := (blk_cell BK897.out 5).trans rfl; have hcz8_6 : w6.cell? ⟨gb897, 6, none⟩ = some (.int .i64 a1_6) := (blk_cell BK897.out 6).trans rfl; have hcz8_7 : w6.cell? ⟨gb897, 7, none⟩ = some (.bool a1_7) := (blk_cell BK897.out 7).trans rfl; have hfz8_0 := blk_frozen BK897.out 0; have hfz8_1 := blk_frozen BK897.out 1; have hfz8_2 := blk_frozen BK897.out 2; have hfz8_3 := blk_frozen BK897.out 3; have hfz8_4 := blk_frozen BK897.out 4; have hfz8_5 := blk_frozen BK897.out 5; have hfz8_6 := blk_frozen BK897.out 6; have hfz8_7 := blk_frozen BK897.out 7) | ((with_reducible refine gate_callee (f := 107) rfl ?_); refine goesL_ (some 9) rfl rfl Try.func107 (by kernel_rfl) rfl #[.slice A0 l0.length c0, .agg #[.int .i64 a1_0, .int .i64 a1_1, .int .i64 a1_2, .int .i64 a1_3, .int .i64 a1_4, .slice A1_5 l1_5.length c1_5, .int .i64 a1_6, .bool a1_7]] rfl mp_q ?_; (with_reducible refine (impl_keyAt.calls k _ _ l0 a1_0 a1_1 a1_2 a1_3 a1_4 _ _ l1_5 a1_6 a1_7 t899 _ ?side1 ?side2 ?side3 ?side4 A3.out).mono ?_); (case side1 => exact cs_q (Kd.C_below HR0.out HB.out)); (case side2 => exact HC0.out); (case side3 => exact cs_q (Kd.C_below HR1_5.out HB.out)); (case side4 => exact HC1_5.out); rintro e w9 ⟨rfl, hb⟩; refine ⟨_, rfl, ?_⟩; replace BK897 := Aside0.mk (blk_below (g := gb897) (bk_q BK897) hb); replace BK898 := Aside0.mk (blk_below (g := gb898) (bk_q BK898) hb); replace HB := Aside0.mk (below_step (bw_q HB) hb); (try clear hb); (try clear hb2); (try clear hk); (try clear hi)))
 have H := HC4.out
 clear HC4
 by_cases c10 : t899 < 0
 ·rw [if_pos c10] at H
  have c10b0 : decide (t899 < 0) = true := decide_eq_true c10
  clear c10
  (first | rw [c10b0] | rw [c10b1] | (simp only [i64_w, i32_w]; first | rw [c10b0] | rw [c10b1]) | skip)
  simp only [Option.some.injEq, Prod.mk.injEq] at H
  obtain ⟨rfl, rfl, rfl, rfl, rfl, rfl, rfl, rfl, rfl⟩ := H
  have hnb11 := NB898_897.out
  have hnc11 := NB897_898.out
  obtain ⟨hcz12_0, hcz12_1, hcz12_2, hcz12_3, hcz12_4, hcz12_5, hcz12_6, hcz12_7⟩ := cz8_ BK898
  obtain ⟨hfz12_0, hfz12_1, hfz12_2, hfz12_3, hfz12_4, hfz12_5, hfz12_6, hfz12_7⟩ := fz8_ BK898
  go_wp2
  refine bodyPost_ret (results_ct rfl _ _ gb898 61 #[.int .i64 0, .int .i64 0, .int .i64 0, .int .i64 0, .int .i64 0, .slice none 0 0, .int .i64 0, .bool false] (0, 0) _ rfl (by refine bz_ ?_; refine blk_put (cs := #[.int .i64 0, .int .i64 0, .int .i64 0, .int .i64 0, .int .i64 0, .slice none 0 0, .int .i64 0, .bool false]) ?_ 7 _ rfl; refine bz_ ?_; refine blk_put (cs := #[.int .i64 0, .int .i64 0, .int .i64 0, .int .i64 0, .int .i64 0, .slice none 0 0, .int .i64 0, .bool false]) ?_ 6 _ rfl; refine bz_ ?_; refine blk_put (cs := #[.int .i64 0, .int .i64 0, .int .i64 0, .int .i64 0, .int .i64 0, .slice none 0 0, .int .i64 0, .bool false]) ?_ 5 _ rfl; refine bz_ ?_; refine blk_put (cs := #[.int .i64 0, .int .i64 0, .int .i64 0, .int .i64 0, .int .i64 0, .slice none 0 0, .int .i64 0, .bool false]) ?_ 4 _ rfl; refine bz_ ?_; refine blk_put (cs := #[.int .i64 0, .int .i64 0, .int .i64 0, .int .i64 0, .int .i64 0, .slice none 0 0, .int .i64 0, .bool false]) ?_ 3 _ rfl; refine bz_ ?_; refine blk_put (cs := #[.int .i64 0, .int .i64 0, .int .i64 0, .int .i64 0, .int .i64 0, .slice none 0 0, .int .i64 0, .bool false]) ?_ 2 _ rfl; refine bz_ ?_; refine blk_put (cs := #[.int .i64 0, .int .i64 0, .int .i64 0, .int .i64 0, .int .i64 0, .slice none 0 0, .int .i64 0, .bool false]) ?_ 1 _ rfl; refine bz_ ?_; refine blk_put (cs := #[.int .i64 0, .int .i64 0, .int .i64 0, .int .i64 0, .int .i64 0, .slice none 0 0, .int .i64 0, .bool false]) ?_ 0 _ rfl; refine bz_ ?_; exact BK898.out) Try.underlying61 rfl (by kernel_rfl)) rfl ?_
  exact ⟨_, er_q, by first | exact Kd.R_nil _ _ _ _ _ | exact Kd.N_nil _ _ _ _ _ | exact Kd.V_nil _ _ _ _ _ | exact Kd.Q_nil _ _ _ _ _ | exact Kd.S_nil _ _ _ _ _, bw_q HB⟩
 ·rw [if_neg c10] at H
  have c10b0 : decide (t899 < 0) = false := decide_eq_false c10
  clear c10
  (first | rw [c10b0] | rw [c10b1] | (simp only [i64_w, i32_w]; first | rw [c10b0] | rw [c10b1]) | skip)
  by_cases c13 : 0 ≤ t899
  ·rw [if_pos c13] at H
   have c13b0 : decide (0 ≤ t899) = true := decide_eq_true c13
   clear c13
   by_cases c14 : t899 < (l0.length : Int)
   ·rw [if_pos c14] at H
    have c14b0 : decide (t899 < (l0.length : Int)) = true := decide_eq_true c14
    clear c14
    replace H := Option.bind_eq_some_iff.mp H
    obtain ⟨⟨t901, t902, t903, t904, t905, t906, t909, t910⟩, A150, H⟩ := H
    replace H : (some (t901, t902, t903, t904, t905, t906, t909, t910, true)) = some (r1, r2, r3, r4, r5, r6, r7, r8, r9) := H
    have A15 := Aside0.mk A150
    clear A150
    simp only [Option.some.injEq, Prod.mk.injEq] at H
    obtain ⟨rfl, rfl, rfl, rfl, rfl, rfl, rfl, rfl, rfl⟩ := H
    have p900 : 0 ≤ (t899 : Int) := of_decide_eq_true as_q
    have q900 : t899 < (l0.length : Int) := of_decide_eq_true as_q
    obtain ⟨ad900, A900_5, c900_5, e900, hx900_0, hx900_1, hx900_2, hx900_3, hx900_4, hx900_5, hx900_6, hx900_7, hl900_5, hi900_5⟩ := at_T61 HR0.out t899 p900 q900
    cases e900
    replace hx900_0 := (HB.out.cell (World.block_lt_of_cell? w _ hx900_0)).trans hx900_0
    replace hx900_1 := (HB.out.cell (World.block_lt_of_cell? w _ hx900_1)).trans hx900_1
    replace hx900_2 := (HB.out.cell (World.block_lt_of_cell? w _ hx900_2)).trans hx900_2
    replace hx900_3 := (HB.out.cell (World.block_lt_of_cell? w _ hx900_3)).trans hx900_3
    replace hx900_4 := (HB.out.cell (World.block_lt_of_cell? w _ hx900_4)).trans hx900_4
    replace hx900_5 := (HB.out.cell (World.block_lt_of_cell? w _ hx900_5)).trans hx900_5
    replace hx900_6 := (HB.out.cell (World.block_lt_of_cell? w _ hx900_6)).trans hx900_6
    replace hx900_7 := (HB.out.cell (World.block_lt_of_cell? w _ hx900_7)).trans hx900_7
    have HR900_5 := Aside0.mk hi900_5
    have HC900_5 := Aside0.mk hl900_5
    clear hi900_5 hl900_5
    replace p900 := eq_true p900
    replace q900 := eq_true q900
    go_wp2_with (first | ((with_reducible refine gate_callee (f := 108) rfl ?_); refine goesL_ (some 17) rfl rfl Try.func108 (by kernel_rfl) rfl #[.agg #[.int .i64 ((rd_T61 l0 t899).f0), .int .i64 ((rd_T61 l0 t899).f1), .int .i64 ((rd_T61 l0 t899).f2), .int .i64 ((rd_T61 l0 t899).f3), .int .i64 ((rd_T61 l0 t899).f4), .slice A900_5 ((rd_T61 l0 t899).f5).length c900_5, .int .i64 ((rd_T61 l0 t899).f6), .bool ((rd_T61 l0 t899).f7)]] rfl mp_q ?_; (with_reducible refine (impl_copyRecord.calls ((rd_T61 l0 t899).f0) ((rd_T61 l0 t899).f1) ((rd_T61 l0 t899).f2) ((rd_T61 l0 t899).f3) ((rd_T61 l0 t899).f4) _ _ ((rd_T61 l0 t899).f5) ((rd_T61 l0 t899).f6) ((rd_T61 l0 t899).f7) t901 t902 t903 t904 t905 t906 t909 t910 _ ?side1 ?side2 A15.out).mono ?_); (case side1 => exact cs_q (Kd.C_below HR900_5.out HB.out)); (case side2 => exact HC900_5.out); rintro e w16 ⟨v907, rfl, ho0, hb⟩; refine ⟨_, rfl, ?_⟩; have hs_v907 : (v907 : Value).oneCell' = true := (by first | (have h_ := Kd.R_slice ho0; obtain ⟨A_, c_, e_⟩ := h_; simp [e_, Value.oneCell']) | (have h_ := Kd.S_slice ho0; obtain ⟨A_, c_, e_⟩ := h_; simp [e_, Value.oneCell']) | (have h_ := Kd.N_slice ho0; obtain ⟨A_, c_, e_⟩ := h_; simp [e_, Value.oneCell']) | (have h_ := Kd.V_slice ho0; obtain ⟨A_, c_, e_⟩ := h_; simp [e_, Value.oneCell'])); have hst_v907 := fun (w_ : World) (a_ : Addr) m_ => run_store Try.prog w_ a_ v907 m_ hs_v907; have HO908 := Aside0.mk (Kd.R_lower ho0 (below_size (bw_q HB))); replace BK897 := Aside0.mk (blk_below (g := gb897) (bk_q BK897) hb); replace BK898 := Aside0.mk (blk_below (g := gb898) (bk_q BK898) hb); replace HB := Aside0.mk (below_step (bw_q HB) hb); (try clear hb); (try clear hb2); (try clear hk); (try clear hi); (try clear ho0); have hnb17 := NB898_897.out; have hnc17 := NB897_898.out; have hcz18_0 : w16.cell? ⟨gb898, 0, none⟩ = some (.int .i64 0) := (blk_cell BK898.out 0).trans rfl; have hcz18_1 : w16.cell? ⟨gb898, 1, none⟩ = some (.int .i64 0) := (blk_cell BK898.out 1).trans rfl; have hcz18_2 : w16.cell? ⟨gb898, 2, none⟩ = some (.int .i64 0) := (blk_cell BK898.out 2).trans rfl; have hcz18_3 : w16.cell? ⟨gb898, 3, none⟩ = some (.int .i64 0) := (blk_cell BK898.out 3).trans rfl; have hcz18_4 : w16.cell? ⟨gb898, 4, none⟩ = some (.int .i64 0) := (blk_cell BK898.out 4).trans rfl; have hcz18_5 : w16.cell? ⟨gb898, 5, none⟩ = some (.slice none 0 0) := (blk_cell BK898.out 5).trans rfl; have hcz18_6 : w16.cell? ⟨gb898, 6, none⟩ = some (.int .i64 0) := (blk_cell BK898.out 6).trans rfl; have hcz18_7 : w16.cell? ⟨gb898, 7, none⟩ = some (.bool false) := (blk_cell BK898.out 7).trans rfl; have hfz18_0 := blk_frozen BK898.out 0; have hfz18_1 := blk_frozen BK898.out 1; have hfz18_2 := blk_frozen BK898.out 2; have hfz18_3 := blk_frozen BK898.out 3; have hfz18_4 := blk_frozen BK898.out 4; have hfz18_5 := blk_frozen BK898.out 5; have hfz18_6 := blk_frozen BK898.out 6; have hfz18_7 := blk_frozen BK898.out 7; obtain ⟨Ao19, co19, eo19⟩ := Kd.R_slice HO908.out; subst eo19))
    refine bodyPost_ret (results_ct rfl _ _ gb898 61 #[.int .i64 t901, .int .i64 t902, .int .i64 t903, .int .i64 t904, .int .i64 t905, .slice Ao19 t906.length co19, .int .i64 t909, .bool t910] (0, 0) _ rfl (by refine bz_ ?_; refine blk_put (cs := #[.int .i64 t901, .int .i64 t902, .int .i64 t903, .int .i64 t904, .int .i64 t905, .slice Ao19 t906.length co19, .int .i64 t909, .bool false]) ?_ 7 _ rfl; refine bz_ ?_; refine blk_put (cs := #[.int .i64 t901, .int .i64 t902, .int .i64 t903, .int .i64 t904, .int .i64 t905, .slice Ao19 t906.length co19, .int .i64 0, .bool false]) ?_ 6 _ rfl; refine bz_ ?_; refine blk_put (cs := #[.int .i64 t901, .int .i64 t902, .int .i64 t903, .int .i64 t904, .int .i64 t905, .slice none 0 0, .int .i64 0, .bool false]) ?_ 5 _ rfl; refine bz_ ?_; refine blk_put (cs := #[.int .i64 t901, .int .i64 t902, .int .i64 t903, .int .i64 t904, .int .i64 0, .slice none 0 0, .int .i64 0, .bool false]) ?_ 4 _ rfl; refine bz_ ?_; refine blk_put (cs := #[.int .i64 t901, .int .i64 t902, .int .i64 t903, .int .i64 0, .int .i64 0, .slice none 0 0, .int .i64 0, .bool false]) ?_ 3 _ rfl; refine bz_ ?_; refine blk_put (cs := #[.int .i64 t901, .int .i64 t902, .int .i64 0, .int .i64 0, .int .i64 0, .slice none 0 0, .int .i64 0, .bool false]) ?_ 2 _ rfl; refine bz_ ?_; refine blk_put (cs := #[.int .i64 t901, .int .i64 0, .int .i64 0, .int .i64 0, .int .i64 0, .slice none 0 0, .int .i64 0, .bool false]) ?_ 1 _ rfl; refine bz_ ?_; refine blk_put (cs := #[.int .i64 0, .int .i64 0, .int .i64 0, .int .i64 0, .int .i64 0, .slice none 0 0, .int .i64 0, .bool false]) ?_ 0 _ rfl; refine bz_ ?_; exact BK898.out) Try.underlying61 rfl (by kernel_rfl)) rfl ?_
    exact ⟨_, er_q, by (with_reducible repeat (first | apply Kd.R_alloc | apply Kd.R_drewN | apply Kd.R_drew)); exact Kd.R_mono (Kd.R_far (p := ⟨gb898, 7, none⟩) (Kd.R_far (p := ⟨gb898, 6, none⟩) (Kd.R_far (p := ⟨gb898, 5, none⟩) (Kd.R_far (p := ⟨gb898, 4, none⟩) (Kd.R_far (p := ⟨gb898, 3, none⟩) (Kd.R_far (p := ⟨gb898, 2, none⟩) (Kd.R_far (p := ⟨gb898, 1, none⟩) (Kd.R_far (p := ⟨gb898, 0, none⟩) (Kd.R_types HO908.out BK898.out (by decide)) (fun _ hk => hk.2) (.int .i64 t901)) (fun _ hk => hk.2) (.int .i64 t902)) (fun _ hk => hk.2) (.int .i64 t903)) (fun _ hk => hk.2) (.int .i64 t904)) (fun _ hk => hk.2) (.int .i64 t905)) (fun _ hk => hk.2) (.slice Ao19 t906.length co19)) (fun _ hk => hk.2) (.int .i64 t909)) (fun _ hk => hk.2) (.bool t910)) (fun _ hk => trivial), bw_q HB⟩
   ·rw [if_neg c14] at H
    exact absurd H (by simp)
  ·rw [if_neg c13] at H
   exact absurd H (by simp)

end Go.Proofs.Ythjmdiggglkeaaa.Q

/- A Go function as a Lean function, and its contract: for every input the Go code comes to what the Lean function tells. -/




namespace Go.Proofs.Ythjmdiggglkeaaa.Q
open Go.RowKit Go.Proofs.YthjmdiggglkeaaaW.PrintWords Go.Proofs.YthjmdiggglkeaaaW.PrintLast Go.Proofs.YthjmdiggglkeaaaW.PrintMore
attribute [local go_sem] max2_int min2_int max_two min_two max_three min_three max_four min_four   -- for this text's walks alone
set_option linter.unusedVariables false
set_option linter.unusedSimpArgs false

/-! ### impl_learned: function 97 -/
def impl_learned.l0 : Nat → List (S61) → List (S61) → List (S61) → Int → Int → Option ((List (S61)) × (List (S61)))
 | 0, _, _, _, _, _ => none
 | k + 1, x6, x7, x14, x15, x16 => if x16 < x15 then (if 0 ≤ x16 then (if x16 < (x14.length : Int) then ((impl_Install.f k x6 ((rd_T61 x14 x16).f0) ((rd_T61 x14 x16).f1) ((rd_T61 x14 x16).f2) ((rd_T61 x14 x16).f3) ((rd_T61 x14 x16).f4) ((rd_T61 x14 x16).f5) ((rd_T61 x14 x16).f6) ((rd_T61 x14 x16).f7)).bind fun bt692 => (if bt692.2 = true then ((impl_copyRecord.f ((rd_T61 x14 x16).f0) ((rd_T61 x14 x16).f1) ((rd_T61 x14 x16).f2) ((rd_T61 x14 x16).f3) ((rd_T61 x14 x16).f4) ((rd_T61 x14 x16).f5) ((rd_T61 x14 x16).f6) ((rd_T61 x14 x16).f7)).bind fun bt696 => (if x7.length < 1759218604441 then (impl_learned.l0 k bt692.1 (x7 ++ [(⟨bt696.1, bt696.2.1, bt696.2.2.1, bt696.2.2.2.1, bt696.2.2.2.2.1, bt696.2.2.2.2.2.1, bt696.2.2.2.2.2.2.1, bt696.2.2.2.2.2.2.2⟩ : S61)]) x14 x15 (wrap64 (x16 + 1))) else (none))) else (impl_learned.l0 k x6 x7 x14 x15 (wrap64 (x16 + 1))))) else (none)) else (none)) else (some (x6, x7))
def impl_learned.f (k : Nat) (l0 : List (S61)) (l1 : List (S61)) : Option ((List (S61)) × (List (S61))) := (impl_copyRecords.f k l0).bind fun t687 => (impl_learned.l0 k t687 ([] : List (S61)) l1 (l1.length : Int) 0)
theorem impl_learned.mono_l : ∀ k, (∀ y0 y1 y2 y3 y4, LeO (impl_learned.l0 k y0 y1 y2 y3 y4) (impl_learned.l0 (k + 1) y0 y1 y2 y3 y4))
 | 0 => fun _ _ _ _ _ r h => by simp [impl_learned.l0] at h
 | k + 1 => by
  have ih0 := impl_learned.mono_l k
  ·intro y0 y1 y2 y3 y4
   unfold impl_learned.l0
   repeat' first
   | (with_reducible exact ih0 _ _ _ _ _)
   | (with_reducible exact impl_Install.mono _ _ _ _ _ _ _ _ _ _)
   | (with_reducible exact impl_copyRecords.mono _ _)
   | (with_reducible exact LeO.refl _)
   | (with_reducible exact LeO.none _)
   | (with_reducible refine LeO.ite ?_ ?_)
   | (with_reducible refine LeO.bind ?_ (fun _ => ?_))
   | exact ih0 _ _ _ _ _
   | exact impl_Install.mono _ _ _ _ _ _ _ _ _ _
   | exact impl_copyRecords.mono _ _
   | exact LeO.none _
   | refine LeO.ite ?_ ?_
   | refine LeO.bind ?_ (fun _ => ?_)
theorem impl_learned.mono : ∀ a0 a1 k, LeO (impl_learned.f k a0 a1) (impl_learned.f (k + 1) a0 a1) := by
 intro a0 a1 k
 have ih0 := impl_learned.mono_l k
 unfold impl_learned.f
 repeat' first
   | (with_reducible exact ih0 _ _ _ _ _)
   | (with_reducible exact impl_Install.mono _ _ _ _ _ _ _ _ _ _)
   | (with_reducible exact impl_copyRecords.mono _ _)
   | (with_reducible exact LeO.refl _)
   | (with_reducible exact LeO.none _)
   | (with_reducible refine LeO.ite ?_ ?_)
   | (with_reducible refine LeO.bind ?_ (fun _ => ?_))
   | exact ih0 _ _ _ _ _
   | exact impl_Install.mono _ _ _ _ _ _ _ _ _ _
   | exact impl_copyRecords.mono _ _
   | exact LeO.none _
   | refine LeO.ite ?_ ?_
   | refine LeO.bind ?_ (fun _ => ?_)
set_option maxHeartbeats 8000000 in
set_option maxRecDepth 100000 in
theorem impl_learned.calls (k : Nat) (A0 : Option Addr) (c0 : Nat) (l0 : List (S61)) (A1 : Option Addr) (c1 : Nat) (l1 : List (S61)) (r1 : List (S61)) (r2 : List (S61)) (w : World) (hr0 : Kd.C k61 w A0 l0.length l0) (hc0 : l0.length ≤ c0) (hr1 : Kd.C k61 w A1 l1.length l1) (hc1 : l1.length ≤ c1) (h : impl_learned.f k l0 l1 = some (r1, r2)) :
  Calls Try.prog 97 #[.slice A0 l0.length c0, .slice A1 l1.length c1] w fun e w' => ∃ v0_ v1_ : Value, e = .returned (.tuple #[v0_, v1_]) ∧ Kd.S k61 61 w' w.heap.size (fun k_ => some k_ ≠ (v1_ : Value).ownBlock) v0_ r1 ∧ Kd.S k61 61 w' w.heap.size (fun k_ => some k_ ≠ (v0_ : Value).ownBlock) v1_ r2 ∧ Below w.heap.size w w' := by
 have hu61 := Try.underlying61
 have HR0 := Aside0.mk hr0
 have HC0 := Aside0.mk hc0
 clear hr0 hc0
 have HR1 := Aside0.mk hr1
 have HC1 := Aside0.mk hc1
 clear hr1 hc1
 have HB := Aside0.mk (Below.refl w.heap.size w)
 have H : ((impl_copyRecords.f k l0).bind fun t687 => (impl_learned.l0 k t687 ([] : List (S61)) l1 (l1.length : Int) 0)) = some (r1, r2) := h
 clear h
 replace H := Option.bind_eq_some_iff.mp H
 obtain ⟨t687, A30, H⟩ := H
 replace H : (impl_learned.l0 k t687 ([] : List (S61)) l1 (l1.length : Int) 0) = some (r1, r2) := H
 have A3 := Aside0.mk A30
 clear A30
 have H' := Aside0.mk H
 clear H
 go_enter Try.func97, Try.ntmps97
 go_wp2_with (first | ((with_reducible refine gate_callee (f := 135) rfl ?_); refine goesL_ (some 13) rfl rfl Try.func135 (by kernel_rfl) rfl #[.slice A0 l0.length c0] rfl mp_q ?_; (with_reducible refine (impl_copyRecords.calls k _ _ l0 t687 _ ?side1 ?side2 A3.out).mono ?_); (case side1 => repeat (first | exact HR0.out | (with_reducible refine Kd.C_alloc ?_ _) | (with_reducible refine Kd.C_drewN ?_ _) | (with_reducible refine Kd.C_drew ?_))); (case side2 => exact HC0.out); rintro e w4 ⟨v688, rfl, ho0, hb⟩; refine ⟨_, rfl, ?_⟩; have HO689 := Aside0.mk (Kd.S_lower ho0 (below_size (bw_q HB))); replace HB := Aside0.mk (below_step (bw_q HB) hb); (try clear hb); (try clear hb2); (try clear hk); (try clear hi); (try clear ho0)))
 go_loopg [6, 7, 16] k (fun kq v6 v7 v16 w' => ∃ (x6_1 : List (S61)) (x7_1 : List (S61)) (x16_1 : Int), v16 = .int .i64 x16_1 ∧ Aside0 (impl_learned.l0 kq x6_1 x7_1 l1 (l1.length : Int) x16_1 = some (r1, r2)) ∧ Aside0 (kq ≤ k) ∧ Aside0 (Kd.S k61 61 w' w.heap.size (fun k_ => some k_ ≠ (v7 : Value).ownBlock) v6 x6_1) ∧ Aside0 (Kd.S k61 61 w' w.heap.size (fun k_ => some k_ ≠ (v6 : Value).ownBlock) v7 x7_1) ∧ Aside0 (Below w.heap.size w w'))
 case atStart => exact ⟨(t687), (([] : List (S61))), (0), (by first | rfl | (simp; done) | (simp [*]; done)), H', ⟨Nat.le_refl _⟩, ⟨by (with_reducible repeat (first | apply Kd.S_alloc | apply Kd.S_drewN | apply Kd.S_drew)); exact Kd.S_mono HO689.out (fun _ hk => (by simp [Value.ownBlock]))⟩, ⟨by first | exact Kd.S_nil _ _ _ _ _ | exact Kd.N_nil _ _ _ _ _ | exact Kd.V_nil _ _ _ _ _ | exact Kd.Q_nil _ _ _ _ _ | exact Kd.R_nil _ _ _ _ _⟩, ⟨bw_q HB⟩⟩
 case round =>
  clear H'
  try clear c1
  try clear p2
  obtain ⟨x6_1, x7_1, x16_1, rfl, HA, HK1, HO_6, HO_7, HB⟩ := hrel
  cases gk with
  | zero => exact absurd HA.out (by simp [impl_learned.l0])
  | succ k1 =>
   have H := HA.out
   clear HA
   simp only [impl_learned.l0] at H
   by_cases c5 : x16_1 < (l1.length : Int)
   ·rw [if_pos c5] at H
    have c5b0 : decide (x16_1 < (l1.length : Int)) = true := decide_eq_true c5
    clear c5
    by_cases c6 : 0 ≤ x16_1
    ·rw [if_pos c6] at H
     have c6b0 : decide (0 ≤ x16_1) = true := decide_eq_true c6
     clear c6
     by_cases c7 : x16_1 < (l1.length : Int)
     ·rw [if_pos c7] at H
      have c7b0 : decide (x16_1 < (l1.length : Int)) = true := decide_eq_true c7
      clear c7
      replace H := Option.bind_eq_some_iff.mp H
      obtain ⟨⟨t692, t695⟩, A80, H⟩ := H
      replace H : (if t695 = true then ((impl_copyRecord.f ((rd_T61 l1 x16_1).f0) ((rd_T61 l1 x16_1).f1) ((rd_T61 l1 x16_1).f2) ((rd_T61 l1 x16_1).f3) ((rd_T61 l1 x16_1).f4) ((rd_T61 l1 x16_1).f5) ((rd_T61 l1 x16_1).f6) ((rd_T61 l1 x16_1).f7)).bind fun bt696 => (if x7_1.length < 1759218604441 then (impl_learned.l0 k1 t692 (x7_1 ++ [(⟨bt696.1, bt696.2.1, bt696.2.2.1, bt696.2.2.2.1, bt696.2.2.2.2.1, bt696.2.2.2.2.2.1, bt696.2.2.2.2.2.2.1, bt696.2.2.2.2.2.2.2⟩ : S61)]) l1 (l1.length : Int) (wrap64 (x16_1 + 1))) else (none))) else (impl_learned.l0 k1 x6_1 x7_1 l1 (l1.length : Int) (wrap64 (x16_1 + 1)))) = some (r1, r2) := H
      have A8 := Aside0.mk A80
      clear A80
      have HC9 := Aside0.mk H
      clear H
      have p690 : 0 ≤ (x16_1 : Int) := of_decide_eq_true as_q
      have q690 : x16_1 < (l1.length : Int) := of_decide_eq_true as_q
      obtain ⟨ad690, A690_5, c690_5, e690, hx690_0, hx690_1, hx690_2, hx690_3, hx690_4, hx690_5, hx690_6, hx690_7, hl690_5, hi690_5⟩ := at_T61 HR1.out x16_1 p690 q690
      cases e690
      replace hx690_0 := (HB.out.cell (World.block_lt_of_cell? w _ hx690_0)).trans hx690_0
      replace hx690_1 := (HB.out.cell (World.block_lt_of_cell? w _ hx690_1)).trans hx690_1
      replace hx690_2 := (HB.out.cell (World.block_lt_of_cell? w _ hx690_2)).trans hx690_2
      replace hx690_3 := (HB.out.cell (World.block_lt_of_cell? w _ hx690_3)).trans hx690_3
      replace hx690_4 := (HB.out.cell (World.block_lt_of_cell? w _ hx690_4)).trans hx690_4
      replace hx690_5 := (HB.out.cell (World.block_lt_of_cell? w _ hx690_5)).trans hx690_5
      replace hx690_6 := (HB.out.cell (World.block_lt_of_cell? w _ hx690_6)).trans hx690_6
      replace hx690_7 := (HB.out.cell (World.block_lt_of_cell? w _ hx690_7)).trans hx690_7
      have HR690_5 := Aside0.mk hi690_5
      have HC690_5 := Aside0.mk hl690_5
      clear hi690_5 hl690_5
      replace p690 := eq_true p690
      replace q690 := eq_true q690
      go_upto_if 26 with (first | ((with_reducible refine gate_dst (N := 9) rfl ?_); refine box_q 9 #[.int .i64 0, .int .i64 0, .int .i64 0, .int .i64 0, .int .i64 0, .slice none 0 0, .int .i64 0, .bool false] 61 ?_; intro gb691 hg w10 hbox hb; replace HO_6 := Aside0.mk (Kd.S_below (Kd.S_elderB (kS_q HO_6) gb691 (Nat.le_of_eq hg.symm)) hb); replace HO_7 := Aside0.mk (Kd.S_below (Kd.S_elderB (kS_q HO_7) gb691 (Nat.le_of_eq hg.symm)) hb); have BK691 := Aside0.mk (hbox); have GW691 := Aside0.mk ((by rw [hg]; exact (below_size (bw_q HB)) : w.heap.size ≤ gb691)); have GE691 := Aside0.mk ((by rw [hg]; exact (below_size (bw_q HB)) : w.heap.size ≤ gb691)); replace HB := Aside0.mk (below_step (bw_q HB) hb); clear hb hbox hg; have hcz11_0 : w10.cell? ⟨gb691, 0, none⟩ = some (.int .i64 0) := (blk_cell BK691.out 0).trans rfl; have hcz11_1 : w10.cell? ⟨gb691, 1, none⟩ = some (.int .i64 0) := (blk_cell BK691.out 1).trans rfl; have hcz11_2 : w10.cell? ⟨gb691, 2, none⟩ = some (.int .i64 0) := (blk_cell BK691.out 2).trans rfl; have hcz11_3 : w10.cell? ⟨gb691, 3, none⟩ = some (.int .i64 0) := (blk_cell BK691.out 3).trans rfl; have hcz11_4 : w10.cell? ⟨gb691, 4, none⟩ = some (.int .i64 0) := (blk_cell BK691.out 4).trans rfl; have hcz11_5 : w10.cell? ⟨gb691, 5, none⟩ = some (.slice none 0 0) := (blk_cell BK691.out 5).trans rfl; have hcz11_6 : w10.cell? ⟨gb691, 6, none⟩ = some (.int .i64 0) := (blk_cell BK691.out 6).trans rfl; have hcz11_7 : w10.cell? ⟨gb691, 7, none⟩ = some (.bool false) := (blk_cell BK691.out 7).trans rfl; have hfz11_0 := blk_frozen BK691.out 0; have hfz11_1 := blk_frozen BK691.out 1; have hfz11_2 := blk_frozen BK691.out 2; have hfz11_3 := blk_frozen BK691.out 3; have hfz11_4 := blk_frozen BK691.out 4; have hfz11_5 := blk_frozen BK691.out 5; have hfz11_6 := blk_frozen BK691.out 6; have hfz11_7 := blk_frozen BK691.out 7; obtain ⟨Ao12, co12, eo12⟩ := Kd.S_slice HO_6.out; subst eo12) | ((with_reducible refine gate_callee (f := 42) rfl ?_); refine goesL_ (some 23) rfl rfl Try.func42 (by kernel_rfl) rfl #[.slice Ao12 x6_1.length co12, .agg #[.int .i64 ((rd_T61 l1 x16_1).f0), .int .i64 ((rd_T61 l1 x16_1).f1), .int .i64 ((rd_T61 l1 x16_1).f2), .int .i64 ((rd_T61 l1 x16_1).f3), .int .i64 ((rd_T61 l1 x16_1).f4), .slice A690_5 ((rd_T61 l1 x16_1).f5).length c690_5, .int .i64 ((rd_T61 l1 x16_1).f6), .bool ((rd_T61 l1 x16_1).f7)]] rfl mp_q ?_; (with_reducible refine (impl_Install.calls k1 _ _ x6_1 ((rd_T61 l1 x16_1).f0) ((rd_T61 l1 x16_1).f1) ((rd_T61 l1 x16_1).f2) ((rd_T61 l1 x16_1).f3) ((rd_T61 l1 x16_1).f4) _ _ ((rd_T61 l1 x16_1).f5) ((rd_T61 l1 x16_1).f6) ((rd_T61 l1 x16_1).f7) t692 t695 _ ?side1 ?side2 ?side3 ?side4 A8.out).mono ?_); (case side1 => refine (Kd.S_reads' (e := 61) (base := w.heap.size) (ok := fun k_ => (some k_ ≠ (u7 : Value).ownBlock ∧ k_ ≠ gb691)) (n := x6_1.length) (c := co12) ?_).2.2; exact (by (with_reducible repeat (first | apply Kd.S_alloc | apply Kd.S_drewN | apply Kd.S_drew)); exact (Kd.S_mono (Kd.S_far (p := ⟨gb691, 7, none⟩) (Kd.S_far (p := ⟨gb691, 6, none⟩) (Kd.S_far (p := ⟨gb691, 5, none⟩) (Kd.S_far (p := ⟨gb691, 4, none⟩) (Kd.S_far (p := ⟨gb691, 3, none⟩) (Kd.S_far (p := ⟨gb691, 2, none⟩) (Kd.S_far (p := ⟨gb691, 1, none⟩) (Kd.S_far (p := ⟨gb691, 0, none⟩) (Kd.S_mono HO_6.out (fun k_ hk => (⟨hk, hk.2⟩ : _ ∧ k_ ≠ gb691))) (fun _ hk => hk.2) (.int .i64 ((rd_T61 l1 x16_1).f0))) (fun _ hk => hk.2) (.int .i64 ((rd_T61 l1 x16_1).f1))) (fun _ hk => hk.2) (.int .i64 ((rd_T61 l1 x16_1).f2))) (fun _ hk => hk.2) (.int .i64 ((rd_T61 l1 x16_1).f3))) (fun _ hk => hk.2) (.int .i64 ((rd_T61 l1 x16_1).f4))) (fun _ hk => hk.2) (.slice A690_5 ((rd_T61 l1 x16_1).f5).length c690_5)) (fun _ hk => hk.2) (.int .i64 ((rd_T61 l1 x16_1).f6))) (fun _ hk => hk.2) (.bool ((rd_T61 l1 x16_1).f7))) (fun _ h_ => h_.1)))); (case side2 => exact (Kd.S_reads' HO_6.out).2.1); (case side3 => exact Kd.C_below HR690_5.out (bw_q HB)); (case side4 => exact HC690_5.out); rintro e w13 ⟨v693, rfl, ho0, hb⟩; refine ⟨_, rfl, ?_⟩; have HO694 := Aside0.mk (Kd.S_lower (Kd.S_newB (Kd.S_new' (Kd.S_new' ho0 (Kd.S_lt (by (with_reducible repeat (first | apply Kd.S_alloc | apply Kd.S_drewN | apply Kd.S_drew)); exact (Kd.S_mono (Kd.S_far (p := ⟨gb691, 7, none⟩) (Kd.S_far (p := ⟨gb691, 6, none⟩) (Kd.S_far (p := ⟨gb691, 5, none⟩) (Kd.S_far (p := ⟨gb691, 4, none⟩) (Kd.S_far (p := ⟨gb691, 3, none⟩) (Kd.S_far (p := ⟨gb691, 2, none⟩) (Kd.S_far (p := ⟨gb691, 1, none⟩) (Kd.S_far (p := ⟨gb691, 0, none⟩) (Kd.S_mono HO_6.out (fun k_ hk => (⟨hk, hk.2⟩ : _ ∧ k_ ≠ gb691))) (fun _ hk => hk.2) (.int .i64 ((rd_T61 l1 x16_1).f0))) (fun _ hk => hk.2) (.int .i64 ((rd_T61 l1 x16_1).f1))) (fun _ hk => hk.2) (.int .i64 ((rd_T61 l1 x16_1).f2))) (fun _ hk => hk.2) (.int .i64 ((rd_T61 l1 x16_1).f3))) (fun _ hk => hk.2) (.int .i64 ((rd_T61 l1 x16_1).f4))) (fun _ hk => hk.2) (.slice A690_5 ((rd_T61 l1 x16_1).f5).length c690_5)) (fun _ hk => hk.2) (.int .i64 ((rd_T61 l1 x16_1).f6))) (fun _ hk => hk.2) (.bool ((rd_T61 l1 x16_1).f7))) (fun _ h_ => h_.1))))) (Kd.S_lt (by (with_reducible repeat (first | apply Kd.S_alloc | apply Kd.S_drewN | apply Kd.S_drew)); exact (Kd.S_mono (Kd.S_far (p := ⟨gb691, 7, none⟩) (Kd.S_far (p := ⟨gb691, 6, none⟩) (Kd.S_far (p := ⟨gb691, 5, none⟩) (Kd.S_far (p := ⟨gb691, 4, none⟩) (Kd.S_far (p := ⟨gb691, 3, none⟩) (Kd.S_far (p := ⟨gb691, 2, none⟩) (Kd.S_far (p := ⟨gb691, 1, none⟩) (Kd.S_far (p := ⟨gb691, 0, none⟩) (Kd.S_mono HO_7.out (fun k_ hk => (⟨hk, hk.2⟩ : _ ∧ k_ ≠ gb691))) (fun _ hk => hk.2) (.int .i64 ((rd_T61 l1 x16_1).f0))) (fun _ hk => hk.2) (.int .i64 ((rd_T61 l1 x16_1).f1))) (fun _ hk => hk.2) (.int .i64 ((rd_T61 l1 x16_1).f2))) (fun _ hk => hk.2) (.int .i64 ((rd_T61 l1 x16_1).f3))) (fun _ hk => hk.2) (.int .i64 ((rd_T61 l1 x16_1).f4))) (fun _ hk => hk.2) (.slice A690_5 ((rd_T61 l1 x16_1).f5).length c690_5)) (fun _ hk => hk.2) (.int .i64 ((rd_T61 l1 x16_1).f6))) (fun _ hk => hk.2) (.bool ((rd_T61 l1 x16_1).f7))) (fun _ h_ => h_.1))))) (g := gb691) (o := .cells #[.int .i64 ((rd_T61 l1 x16_1).f0), .int .i64 ((rd_T61 l1 x16_1).f1), .int .i64 ((rd_T61 l1 x16_1).f2), .int .i64 ((rd_T61 l1 x16_1).f3), .int .i64 ((rd_T61 l1 x16_1).f4), .slice A690_5 ((rd_T61 l1 x16_1).f5).length c690_5, .int .i64 ((rd_T61 l1 x16_1).f6), .bool ((rd_T61 l1 x16_1).f7)] 61 (0, 0)) (by refine bz_ ?_; refine blk_put (cs := #[.int .i64 ((rd_T61 l1 x16_1).f0), .int .i64 ((rd_T61 l1 x16_1).f1), .int .i64 ((rd_T61 l1 x16_1).f2), .int .i64 ((rd_T61 l1 x16_1).f3), .int .i64 ((rd_T61 l1 x16_1).f4), .slice A690_5 ((rd_T61 l1 x16_1).f5).length c690_5, .int .i64 ((rd_T61 l1 x16_1).f6), .bool false]) ?_ 7 _ rfl; refine bz_ ?_; refine blk_put (cs := #[.int .i64 ((rd_T61 l1 x16_1).f0), .int .i64 ((rd_T61 l1 x16_1).f1), .int .i64 ((rd_T61 l1 x16_1).f2), .int .i64 ((rd_T61 l1 x16_1).f3), .int .i64 ((rd_T61 l1 x16_1).f4), .slice A690_5 ((rd_T61 l1 x16_1).f5).length c690_5, .int .i64 0, .bool false]) ?_ 6 _ rfl; refine bz_ ?_; refine blk_put (cs := #[.int .i64 ((rd_T61 l1 x16_1).f0), .int .i64 ((rd_T61 l1 x16_1).f1), .int .i64 ((rd_T61 l1 x16_1).f2), .int .i64 ((rd_T61 l1 x16_1).f3), .int .i64 ((rd_T61 l1 x16_1).f4), .slice none 0 0, .int .i64 0, .bool false]) ?_ 5 _ rfl; refine bz_ ?_; refine blk_put (cs := #[.int .i64 ((rd_T61 l1 x16_1).f0), .int .i64 ((rd_T61 l1 x16_1).f1), .int .i64 ((rd_T61 l1 x16_1).f2), .int .i64 ((rd_T61 l1 x16_1).f3), .int .i64 0, .slice none 0 0, .int .i64 0, .bool false]) ?_ 4 _ rfl; refine bz_ ?_; refine blk_put (cs := #[.int .i64 ((rd_T61 l1 x16_1).f0), .int .i64 ((rd_T61 l1 x16_1).f1), .int .i64 ((rd_T61 l1 x16_1).f2), .int .i64 0, .int .i64 0, .slice none 0 0, .int .i64 0, .bool false]) ?_ 3 _ rfl; refine bz_ ?_; refine blk_put (cs := #[.int .i64 ((rd_T61 l1 x16_1).f0), .int .i64 ((rd_T61 l1 x16_1).f1), .int .i64 0, .int .i64 0, .int .i64 0, .slice none 0 0, .int .i64 0, .bool false]) ?_ 2 _ rfl; refine bz_ ?_; refine blk_put (cs := #[.int .i64 ((rd_T61 l1 x16_1).f0), .int .i64 0, .int .i64 0, .int .i64 0, .int .i64 0, .slice none 0 0, .int .i64 0, .bool false]) ?_ 1 _ rfl; refine bz_ ?_; refine blk_put (cs := #[.int .i64 0, .int .i64 0, .int .i64 0, .int .i64 0, .int .i64 0, .slice none 0 0, .int .i64 0, .bool false]) ?_ 0 _ rfl; refine bz_ ?_; exact BK691.out)) (below_size (bw_q HB))); replace HO_6 := Aside0.mk (Kd.S_elder' (by (with_reducible repeat (first | apply Kd.S_alloc | apply Kd.S_drewN | apply Kd.S_drew)); exact (Kd.S_mono (Kd.S_far (p := ⟨gb691, 7, none⟩) (Kd.S_far (p := ⟨gb691, 6, none⟩) (Kd.S_far (p := ⟨gb691, 5, none⟩) (Kd.S_far (p := ⟨gb691, 4, none⟩) (Kd.S_far (p := ⟨gb691, 3, none⟩) (Kd.S_far (p := ⟨gb691, 2, none⟩) (Kd.S_far (p := ⟨gb691, 1, none⟩) (Kd.S_far (p := ⟨gb691, 0, none⟩) (Kd.S_mono HO_6.out (fun k_ hk => (⟨hk, hk.2⟩ : _ ∧ k_ ≠ gb691))) (fun _ hk => hk.2) (.int .i64 ((rd_T61 l1 x16_1).f0))) (fun _ hk => hk.2) (.int .i64 ((rd_T61 l1 x16_1).f1))) (fun _ hk => hk.2) (.int .i64 ((rd_T61 l1 x16_1).f2))) (fun _ hk => hk.2) (.int .i64 ((rd_T61 l1 x16_1).f3))) (fun _ hk => hk.2) (.int .i64 ((rd_T61 l1 x16_1).f4))) (fun _ hk => hk.2) (.slice A690_5 ((rd_T61 l1 x16_1).f5).length c690_5)) (fun _ hk => hk.2) (.int .i64 ((rd_T61 l1 x16_1).f6))) (fun _ hk => hk.2) (.bool ((rd_T61 l1 x16_1).f7))) (fun _ h_ => h_.1))) (Kd.S_base ho0) hb); replace HO_7 := Aside0.mk (Kd.S_elder' (by (with_reducible repeat (first | apply Kd.S_alloc | apply Kd.S_drewN | apply Kd.S_drew)); exact (Kd.S_mono (Kd.S_far (p := ⟨gb691, 7, none⟩) (Kd.S_far (p := ⟨gb691, 6, none⟩) (Kd.S_far (p := ⟨gb691, 5, none⟩) (Kd.S_far (p := ⟨gb691, 4, none⟩) (Kd.S_far (p := ⟨gb691, 3, none⟩) (Kd.S_far (p := ⟨gb691, 2, none⟩) (Kd.S_far (p := ⟨gb691, 1, none⟩) (Kd.S_far (p := ⟨gb691, 0, none⟩) (Kd.S_mono HO_7.out (fun k_ hk => (⟨hk, hk.2⟩ : _ ∧ k_ ≠ gb691))) (fun _ hk => hk.2) (.int .i64 ((rd_T61 l1 x16_1).f0))) (fun _ hk => hk.2) (.int .i64 ((rd_T61 l1 x16_1).f1))) (fun _ hk => hk.2) (.int .i64 ((rd_T61 l1 x16_1).f2))) (fun _ hk => hk.2) (.int .i64 ((rd_T61 l1 x16_1).f3))) (fun _ hk => hk.2) (.int .i64 ((rd_T61 l1 x16_1).f4))) (fun _ hk => hk.2) (.slice A690_5 ((rd_T61 l1 x16_1).f5).length c690_5)) (fun _ hk => hk.2) (.int .i64 ((rd_T61 l1 x16_1).f6))) (fun _ hk => hk.2) (.bool ((rd_T61 l1 x16_1).f7))) (fun _ h_ => h_.1))) (Kd.S_base ho0) hb); replace BK691 := Aside0.mk (blk_below (g := gb691) (o := .cells #[.int .i64 ((rd_T61 l1 x16_1).f0), .int .i64 ((rd_T61 l1 x16_1).f1), .int .i64 ((rd_T61 l1 x16_1).f2), .int .i64 ((rd_T61 l1 x16_1).f3), .int .i64 ((rd_T61 l1 x16_1).f4), .slice A690_5 ((rd_T61 l1 x16_1).f5).length c690_5, .int .i64 ((rd_T61 l1 x16_1).f6), .bool ((rd_T61 l1 x16_1).f7)] 61 (0, 0)) (by refine bz_ ?_; refine blk_put (cs := #[.int .i64 ((rd_T61 l1 x16_1).f0), .int .i64 ((rd_T61 l1 x16_1).f1), .int .i64 ((rd_T61 l1 x16_1).f2), .int .i64 ((rd_T61 l1 x16_1).f3), .int .i64 ((rd_T61 l1 x16_1).f4), .slice A690_5 ((rd_T61 l1 x16_1).f5).length c690_5, .int .i64 ((rd_T61 l1 x16_1).f6), .bool false]) ?_ 7 _ rfl; refine bz_ ?_; refine blk_put (cs := #[.int .i64 ((rd_T61 l1 x16_1).f0), .int .i64 ((rd_T61 l1 x16_1).f1), .int .i64 ((rd_T61 l1 x16_1).f2), .int .i64 ((rd_T61 l1 x16_1).f3), .int .i64 ((rd_T61 l1 x16_1).f4), .slice A690_5 ((rd_T61 l1 x16_1).f5).length c690_5, .int .i64 0, .bool false]) ?_ 6 _ rfl; refine bz_ ?_; refine blk_put (cs := #[.int .i64 ((rd_T61 l1 x16_1).f0), .int .i64 ((rd_T61 l1 x16_1).f1), .int .i64 ((rd_T61 l1 x16_1).f2), .int .i64 ((rd_T61 l1 x16_1).f3), .int .i64 ((rd_T61 l1 x16_1).f4), .slice none 0 0, .int .i64 0, .bool false]) ?_ 5 _ rfl; refine bz_ ?_; refine blk_put (cs := #[.int .i64 ((rd_T61 l1 x16_1).f0), .int .i64 ((rd_T61 l1 x16_1).f1), .int .i64 ((rd_T61 l1 x16_1).f2), .int .i64 ((rd_T61 l1 x16_1).f3), .int .i64 0, .slice none 0 0, .int .i64 0, .bool false]) ?_ 4 _ rfl; refine bz_ ?_; refine blk_put (cs := #[.int .i64 ((rd_T61 l1 x16_1).f0), .int .i64 ((rd_T61 l1 x16_1).f1), .int .i64 ((rd_T61 l1 x16_1).f2), .int .i64 0, .int .i64 0, .slice none 0 0, .int .i64 0, .bool false]) ?_ 3 _ rfl; refine bz_ ?_; refine blk_put (cs := #[.int .i64 ((rd_T61 l1 x16_1).f0), .int .i64 ((rd_T61 l1 x16_1).f1), .int .i64 0, .int .i64 0, .int .i64 0, .slice none 0 0, .int .i64 0, .bool false]) ?_ 2 _ rfl; refine bz_ ?_; refine blk_put (cs := #[.int .i64 ((rd_T61 l1 x16_1).f0), .int .i64 0, .int .i64 0, .int .i64 0, .int .i64 0, .slice none 0 0, .int .i64 0, .bool false]) ?_ 1 _ rfl; refine bz_ ?_; refine blk_put (cs := #[.int .i64 0, .int .i64 0, .int .i64 0, .int .i64 0, .int .i64 0, .slice none 0 0, .int .i64 0, .bool false]) ?_ 0 _ rfl; refine bz_ ?_; exact BK691.out) hb); replace HB := Aside0.mk (below_step (bw_q HB) hb); (try clear hb); (try clear hb2); (try clear hk); (try clear hi); (try clear ho0)))
      (try clear hx690_0); (try clear hx690_1); (try clear hx690_2); (try clear hx690_3); (try clear hx690_4); (try clear hx690_5); (try clear hx690_6); (try clear hx690_7)
      have H := HC9.out
      clear HC9
      by_cases c14 : t695 = true
      ·subst c14
       have H1 : ((impl_copyRecord.f ((rd_T61 l1 x16_1).f0) ((rd_T61 l1 x16_1).f1) ((rd_T61 l1 x16_1).f2) ((rd_T61 l1 x16_1).f3) ((rd_T61 l1 x16_1).f4) ((rd_T61 l1 x16_1).f5) ((rd_T61 l1 x16_1).f6) ((rd_T61 l1 x16_1).f7)).bind fun bt696 => (if x7_1.length < 1759218604441 then (impl_learned.l0 k1 t692 (x7_1 ++ [(⟨bt696.1, bt696.2.1, bt696.2.2.1, bt696.2.2.2.1, bt696.2.2.2.2.1, bt696.2.2.2.2.2.1, bt696.2.2.2.2.2.2.1, bt696.2.2.2.2.2.2.2⟩ : S61)]) l1 (l1.length : Int) (wrap64 (x16_1 + 1))) else (none))) = some (r1, r2) := by rw [if_pos rfl] at H; exact H
       clear H
       have H := H1
       clear H1
       replace H := Option.bind_eq_some_iff.mp H
       obtain ⟨⟨t696, t697, t698, t699, t700, t701, t704, t705⟩, A150, H⟩ := H
       replace H : (if x7_1.length < 1759218604441 then (impl_learned.l0 k1 t692 (x7_1 ++ [(⟨t696, t697, t698, t699, t700, t701, t704, t705⟩ : S61)]) l1 (l1.length : Int) (wrap64 (x16_1 + 1))) else (none)) = some (r1, r2) := H
       have A15 := Aside0.mk A150
       clear A150
       by_cases c16 : x7_1.length < 1759218604441
       ·rw [if_pos c16] at H
        have LMc16 := Aside0.mk c16
        clear c16
        obtain ⟨y706, hy706⟩ : ∃ y_ : List (S61), y_ = (x7_1 ++ [(⟨t696, t697, t698, t699, t700, t701, t704, t705⟩ : S61)]) := ⟨_, rfl⟩
        replace H : (impl_learned.l0 k1 t692 y706 l1 (l1.length : Int) (wrap64 (x16_1 + 1))) = some (r1, r2) := by first | (rw [hy706]; with_reducible exact H) | (have H2_ := (Option.bind_some _ _).symm.trans H; rw [hy706]; with_reducible exact H2_) | (have H2_ := (Option.bind_some _ _).symm.trans H; with_reducible exact H2_) | with_reducible exact H | (rw [hy706]; exact H) | exact H
        have Ny706 := Aside0.mk hy706
        clear hy706
        have H' := Aside0.mk H
        clear H
        obtain ⟨hcz17_0, hcz17_1, hcz17_2, hcz17_3, hcz17_4, hcz17_5, hcz17_6, hcz17_7⟩ := cz8_ BK691
        obtain ⟨hfz17_0, hfz17_1, hfz17_2, hfz17_3, hfz17_4, hfz17_5, hfz17_6, hfz17_7⟩ := fz8_ BK691
        go_wp2_with (first | ((with_reducible refine gate_callee (f := 108) rfl ?_); refine goesL_ (some 30) rfl rfl Try.func108 (by kernel_rfl) rfl #[.agg #[.int .i64 ((rd_T61 l1 x16_1).f0), .int .i64 ((rd_T61 l1 x16_1).f1), .int .i64 ((rd_T61 l1 x16_1).f2), .int .i64 ((rd_T61 l1 x16_1).f3), .int .i64 ((rd_T61 l1 x16_1).f4), .slice A690_5 ((rd_T61 l1 x16_1).f5).length c690_5, .int .i64 ((rd_T61 l1 x16_1).f6), .bool ((rd_T61 l1 x16_1).f7)]] rfl mp_q ?_; (with_reducible refine (impl_copyRecord.calls ((rd_T61 l1 x16_1).f0) ((rd_T61 l1 x16_1).f1) ((rd_T61 l1 x16_1).f2) ((rd_T61 l1 x16_1).f3) ((rd_T61 l1 x16_1).f4) _ _ ((rd_T61 l1 x16_1).f5) ((rd_T61 l1 x16_1).f6) ((rd_T61 l1 x16_1).f7) t696 t697 t698 t699 t700 t701 t704 t705 _ ?side1 ?side2 A15.out).mono ?_); (case side1 => exact cs_q (Kd.C_below HR690_5.out HB.out)); (case side2 => exact HC690_5.out); rintro e w18 ⟨v702, rfl, ho0, hb⟩; refine ⟨_, rfl, ?_⟩; have hs_v702 : (v702 : Value).oneCell' = true := (by first | (have h_ := Kd.R_slice ho0; obtain ⟨A_, c_, e_⟩ := h_; simp [e_, Value.oneCell']) | (have h_ := Kd.S_slice ho0; obtain ⟨A_, c_, e_⟩ := h_; simp [e_, Value.oneCell']) | (have h_ := Kd.N_slice ho0; obtain ⟨A_, c_, e_⟩ := h_; simp [e_, Value.oneCell']) | (have h_ := Kd.V_slice ho0; obtain ⟨A_, c_, e_⟩ := h_; simp [e_, Value.oneCell'])); have hst_v702 := fun (w_ : World) (a_ : Addr) m_ => run_store Try.prog w_ a_ v702 m_ hs_v702; replace HO_6 := Aside0.mk (Kd.S_elder' (kS_q HO_6) (Kd.R_base ho0) hb); replace HO_7 := Aside0.mk (Kd.S_elder' (kS_q HO_7) (Kd.R_base ho0) hb); replace HO694 := Aside0.mk (Kd.S_elder' (kS_q HO694) (Kd.R_base ho0) hb); have HO703 := Aside0.mk (Kd.R_lower ho0 (below_size (bw_q HB))); replace BK691 := Aside0.mk (blk_below (g := gb691) (bk_q BK691) hb); replace HB := Aside0.mk (below_step (bw_q HB) hb); (try clear hb); (try clear hb2); (try clear hk); (try clear hi); (try clear ho0); obtain ⟨Ao20, co20, eo20⟩ := Kd.R_slice HO703.out; subst eo20) | ((with_reducible refine gate_builtin (b := .append) (xs := #[.tmp 28, .tmp 31]) rfl ?_); at_builtin; refine Kd.S_append k61 (w0 := w) w.heap.size rfl (.tmp 28) (.tmp 31) 41 61 (.agg #[(.int .i64 0), (.int .i64 0), (.int .i64 0), (.int .i64 0), (.int .i64 0), (.slice none 0 0), (.int .i64 0), (.bool false)]) 80 rfl Try.underlying41 info61 rfl (by decide) (by omega) u7 x7_1 (⟨t696, t697, t698, t699, t700, t701, t704, t705⟩ : S61) [.int .i64 t696, .int .i64 t697, .int .i64 t698, .int .i64 t699, .int .i64 t700, .slice Ao20 t701.length co20, .int .i64 t704, .bool t705] (fun k_ => some k_ ≠ (.slice Ao12 x6_1.length co12 : Value).ownBlock ∧ some k_ ≠ (v693 : Value).ownBlock ∧ k_ ≠ gb691) (fun k_ => some k_ = (.slice Ao20 t701.length co20 : Value).ownBlock) rfl rfl ?aP (fun k_ hk_ => ((Kd.R_mono (ok' := fun k_ => ((fun k_ => some k_ ≠ (.slice Ao12 x6_1.length co12 : Value).ownBlock ∧ some k_ ≠ (v693 : Value).ownBlock ∧ k_ ≠ gb691)) k_ ∧ some k_ ≠ (u7 : Value).ownBlock) (Kd.R_types (Kd.R_apart' (Kd.R_apart' (Kd.R_apart' (HO703.out) (Kd.S_typed HO_6.out) (by decide)) (Kd.S_typed HO694.out) (by decide)) (Kd.S_typed HO_7.out) (by decide)) BK691.out (by decide)) (fun k_ hk => ⟨⟨hk.1.1.1.2, ⟨hk.1.1.2, hk.2⟩⟩, hk.1.2⟩))).1 k_ hk_.symm) ?aF ?aO ?aB ?aS ?aL ?_; (case aP => exact k61_mkM _ _ _ (⟨t696, t697, t698, t699, t700, t701, t704, t705⟩ : S61) (Kd.R_mono (Kd.R_tight rfl (Kd.R_mono (ok' := fun k_ => ((fun k_ => some k_ ≠ (.slice Ao12 x6_1.length co12 : Value).ownBlock ∧ some k_ ≠ (v693 : Value).ownBlock ∧ k_ ≠ gb691)) k_ ∧ some k_ ≠ (u7 : Value).ownBlock) (Kd.R_types (Kd.R_apart' (Kd.R_apart' (Kd.R_apart' (HO703.out) (Kd.S_typed HO_6.out) (by decide)) (Kd.S_typed HO694.out) (by decide)) (Kd.S_typed HO_7.out) (by decide)) BK691.out (by decide)) (fun k_ hk => ⟨⟨hk.1.1.1.2, ⟨hk.1.1.2, hk.2⟩⟩, hk.1.2⟩))) (fun _ h_ => h_))); (case aB => exact (bw_q HB)); (case aF => exact (fun k_ hk => ⟨Kd.fresh' (Kd.S_lt (kS_q HO_6)) k_ hk, Kd.fresh' (Kd.S_lt (kS_q HO694)) k_ hk, Kd.freshB (g := gb691) (o := .cells #[.int .i64 ((rd_T61 l1 x16_1).f0), .int .i64 ((rd_T61 l1 x16_1).f1), .int .i64 ((rd_T61 l1 x16_1).f2), .int .i64 ((rd_T61 l1 x16_1).f3), .int .i64 ((rd_T61 l1 x16_1).f4), .slice A690_5 ((rd_T61 l1 x16_1).f5).length c690_5, .int .i64 ((rd_T61 l1 x16_1).f6), .bool ((rd_T61 l1 x16_1).f7)] 61 (0, 0)) (bk_q BK691) k_ hk⟩)); (case aO => exact (by (with_reducible repeat (first | apply Kd.S_alloc | apply Kd.S_drewN | apply Kd.S_drew)); exact Kd.S_mono HO_7.out (fun k_ hk => ⟨⟨hk.1.1.1, ⟨hk.1.2, hk.1.1.2⟩⟩, fun e_ => hk.2 e_⟩))); (case aS => exact (below_size (bw_q HB))); (case aL => have := LMc16.out; omega); intro v707 w19 ho hb hg hat; rw [← Ny706.out] at ho; replace HO_6 := Aside0.mk (Kd.S_after (ok := (fun k_ => some k_ ≠ (v693 : Value).ownBlock ∧ some k_ ≠ (.slice Ao20 t701.length co20 : Value).ownBlock ∧ k_ ≠ gb691)) (by (with_reducible repeat (first | apply Kd.S_alloc | apply Kd.S_drewN | apply Kd.S_drew)); exact Kd.S_mono HO_6.out (fun _ hk => ⟨⟨hk.1.2, ⟨hk.2, hk.1.1.2⟩⟩, hk.1.1.1⟩)) hg hat); replace BK691 := Aside0.mk (blk_grown (g := gb691) (o := .cells #[.int .i64 ((rd_T61 l1 x16_1).f0), .int .i64 ((rd_T61 l1 x16_1).f1), .int .i64 ((rd_T61 l1 x16_1).f2), .int .i64 ((rd_T61 l1 x16_1).f3), .int .i64 ((rd_T61 l1 x16_1).f4), .slice A690_5 ((rd_T61 l1 x16_1).f5).length c690_5, .int .i64 ((rd_T61 l1 x16_1).f6), .bool ((rd_T61 l1 x16_1).f7)] 61 (0, 0)) (bk_q BK691) hg (Kd.S_away HO_7.out (fun _ hk => hk.1.1.2))); replace HO694 := Aside0.mk (Kd.S_after (ok := (fun k_ => some k_ ≠ (.slice Ao12 x6_1.length co12 : Value).ownBlock ∧ some k_ ≠ (.slice Ao20 t701.length co20 : Value).ownBlock ∧ k_ ≠ gb691)) (by (with_reducible repeat (first | apply Kd.S_alloc | apply Kd.S_drewN | apply Kd.S_drew)); exact Kd.S_mono HO694.out (fun _ hk => ⟨⟨hk.1.1.1.2, ⟨hk.2, hk.1.2⟩⟩, hk.1.1.2⟩)) hg hat); replace HB := Aside0.mk (hb); have HO708 := Aside0.mk (ho); clear HO_7 HO703; clear ho hb hg hat))
        go_roundg k1
        case measure => have := HK1.out; omega
        case rel => exact ⟨(t692), (y706), (wrap64 (x16_1 + 1)), (by first | rfl | (simp; done) | (simp [*]; done)), H', ⟨by have := HK1.out; omega⟩, ⟨by (with_reducible repeat (first | apply Kd.S_alloc | apply Kd.S_drewN | apply Kd.S_drew)); exact Kd.S_mono HO694.out (fun _ hk => hk.2)⟩, ⟨by (with_reducible repeat (first | apply Kd.S_alloc | apply Kd.S_drewN | apply Kd.S_drew)); exact Kd.S_mono HO708.out (fun _ hk => hk.2.1)⟩, ⟨bw_q HB⟩⟩
       ·rw [if_neg c16] at H
        exact absurd H (by simp)
      ·replace c14 := Bool.eq_false_iff.mpr c14
       subst c14
       have H1 : (impl_learned.l0 k1 x6_1 x7_1 l1 (l1.length : Int) (wrap64 (x16_1 + 1))) = some (r1, r2) := by rw [if_neg (show ¬ (false = true) by decide)] at H; exact H
       clear H
       have H := H1
       clear H1
       have H' := Aside0.mk H
       clear H
       go_wp2
       go_roundg k1
       case measure => have := HK1.out; omega
       case rel => exact ⟨(x6_1), (x7_1), (wrap64 (x16_1 + 1)), (by first | rfl | (simp; done) | (simp [*]; done)), H', ⟨by have := HK1.out; omega⟩, ⟨by (with_reducible repeat (first | apply Kd.S_alloc | apply Kd.S_drewN | apply Kd.S_drew)); exact Kd.S_mono HO_6.out (fun _ hk => hk.1.1)⟩, ⟨by (with_reducible repeat (first | apply Kd.S_alloc | apply Kd.S_drewN | apply Kd.S_drew)); exact Kd.S_mono HO_7.out (fun _ hk => hk.1.1)⟩, ⟨bw_q HB⟩⟩
     ·rw [if_neg c7] at H
      exact absurd H (by simp)
    ·rw [if_neg c6] at H
     exact absurd H (by simp)
   ·rw [if_neg c5] at H
    have c5b0 : decide (x16_1 < (l1.length : Int)) = false := decide_eq_false c5
    clear c5
    simp only [Option.some.injEq, Prod.mk.injEq] at H
    obtain ⟨rfl, rfl⟩ := H
    go_wp2
    go_ret2
    exact ⟨_, _, er_q, by (with_reducible repeat (first | apply Kd.S_alloc | apply Kd.S_drewN | apply Kd.S_drew)); exact HO_6.out, by (with_reducible repeat (first | apply Kd.S_alloc | apply Kd.S_drewN | apply Kd.S_drew)); exact HO_7.out, bw_q HB⟩

end Go.Proofs.Ythjmdiggglkeaaa.Q

/- A Go function as a Lean function, and its contract: for every input the Go code comes to what the Lean function tells. -/


namespace Go.Proofs.Ythjmdiggglkeaaa.Q
open Go.RowKit Go.Proofs.YthjmdiggglkeaaaW.PrintWords Go.Proofs.YthjmdiggglkeaaaW.PrintLast Go.Proofs.YthjmdiggglkeaaaW.PrintMore
attribute [local go_sem] max2_int min2_int max_two min_two max_three min_three max_four min_four   -- for this text's walks alone
set_option linter.unusedVariables false
set_option linter.unusedSimpArgs false

/-! ### impl_Merge: function 44 -/
def impl_Merge.f (k : Nat) (l0 : List (S61)) (l1 : List (S61)) : Option ((List (S61))) := (impl_learned.f k l0 l1).bind fun bt1064 => (some bt1064.1)
theorem impl_Merge.mono : ∀ a0 a1 k, LeO (impl_Merge.f k a0 a1) (impl_Merge.f (k + 1) a0 a1) := by
 intro a0 a1 k
 unfold impl_Merge.f
 repeat' first
   | (with_reducible exact impl_learned.mono _ _ _)
   | (with_reducible exact LeO.refl _)
   | (with_reducible exact LeO.none _)
   | (with_reducible refine LeO.ite ?_ ?_)
   | (with_reducible refine LeO.bind ?_ (fun _ => ?_))
   | exact impl_learned.mono _ _ _
   | exact LeO.none _
   | refine LeO.ite ?_ ?_
   | refine LeO.bind ?_ (fun _ => ?_)
set_option maxHeartbeats 8000000 in
set_option maxRecDepth 100000 in
theorem impl_Merge.calls (k : Nat) (A0 : Option Addr) (c0 : Nat) (l0 : List (S61)) (A1 : Option Addr) (c1 : Nat) (l1 : List (S61)) (r : List (S61)) (w : World) (hr0 : Kd.C k61 w A0 l0.length l0) (hc0 : l0.length ≤ c0) (hr1 : Kd.C k61 w A1 l1.length l1) (hc1 : l1.length ≤ c1) (h : impl_Merge.f k l0 l1 = some r) :
  Calls Try.prog 44 #[.slice A0 l0.length c0, .slice A1 l1.length c1] w fun e w' => ∃ v0_ : Value, e = .returned (v0_) ∧ Kd.S k61 61 w' w.heap.size (fun _ => True) v0_ r ∧ Below w.heap.size w w' := by
 have HR0 := Aside0.mk hr0
 have HC0 := Aside0.mk hc0
 clear hr0 hc0
 have HR1 := Aside0.mk hr1
 have HC1 := Aside0.mk hc1
 clear hr1 hc1
 have HB := Aside0.mk (Below.refl w.heap.size w)
 have H : ((impl_learned.f k l0 l1).bind fun bt1064 => (some bt1064.1)) = some r := h
 clear h
 replace H := Option.bind_eq_some_iff.mp H
 obtain ⟨⟨t1064, t1065⟩, A30, H⟩ := H
 replace H : (some t1064) = some r := H
 have A3 := Aside0.mk A30
 clear A30
 obtain rfl := Option.some.inj H
 go_enter Try.func44, Try.ntmps44
 go_wp2_with (first | ((with_reducible refine gate_callee (f := 97) rfl ?_); refine goesL_ (some 10) rfl rfl Try.func97 (by kernel_rfl) rfl #[.slice A0 l0.length c0, .slice A1 l1.length c1] rfl mp_q ?_; (with_reducible refine (impl_learned.calls k _ _ l0 _ _ l1 t1064 t1065 _ ?side1 ?side2 ?side3 ?side4 A3.out).mono ?_); (case side1 => repeat (first | exact HR0.out | (with_reducible refine Kd.C_alloc ?_ _) | (with_reducible refine Kd.C_drewN ?_ _) | (with_reducible refine Kd.C_drew ?_))); (case side2 => exact HC0.out); (case side3 => repeat (first | exact HR1.out | (with_reducible refine Kd.C_alloc ?_ _) | (with_reducible refine Kd.C_drewN ?_ _) | (with_reducible refine Kd.C_drew ?_))); (case side4 => exact HC1.out); rintro e w4 ⟨v1066, v1068, rfl, ho0, ho1, hb⟩; refine ⟨_, rfl, ?_⟩; have HO1067 := Aside0.mk (Kd.S_lower ho0 (below_size (bw_q HB))); have HO1069 := Aside0.mk (Kd.S_lower ho1 (below_size (bw_q HB))); replace HB := Aside0.mk (below_step (bw_q HB) hb); (try clear hb); (try clear hb2); (try clear hk); (try clear hi); (try clear ho0); (try clear ho1)))
 go_ret
 exact ⟨_, er_q, by (with_reducible repeat (first | apply Kd.S_alloc | apply Kd.S_drewN | apply Kd.S_drew)); exact Kd.S_mono HO1067.out (fun _ hk => trivial), bw_q HB⟩

end Go.Proofs.Ythjmdiggglkeaaa.Q

/- A Go function as a Lean function, and its contract: for every input the Go code comes to what the Lean function tells. -/

namespace Go.Proofs.Ythjmdiggglkeaaa.Q
open Go.RowKit Go.Proofs.YthjmdiggglkeaaaW.PrintWords Go.Proofs.YthjmdiggglkeaaaW.PrintLast Go.Proofs.YthjmdiggglkeaaaW.PrintMore
attribute [local go_sem] max2_int min2_int max_two min_two max_three min_three max_four min_four   -- for this text's walks alone
set_option linter.unusedVariables false
set_option linter.unusedSimpArgs false

/-! ### laws_big: function 47 -/
def laws_big.f (l0 : List Int) : Option (Bool) := some (decide ((l0.length : Int) > 1048576))
set_option maxHeartbeats 8000000 in
set_option maxRecDepth 100000 in
theorem laws_big.calls (A0 : Option Addr) (c0 : Nat) (l0 : List Int) (r : Bool) (w : World) (hr0 : Kd.C (Kd.int .u8) w A0 l0.length l0) (hc0 : l0.length ≤ c0) (h : laws_big.f l0 = some r) :
  Calls Try.prog 47 #[.slice A0 l0.length c0] w fun e w' => e = .returned (.bool r) ∧ Drawn0 w w' := by
 have HR0 := Aside0.mk hr0
 have HC0 := Aside0.mk hc0
 clear hr0 hc0
 have H : (some (decide ((l0.length : Int) > 1048576))) = some r := h
 clear h
 obtain rfl := Option.some.inj H
 go_enter Try.func47, Try.ntmps47
 go_wp2
 go_ret
 exact ⟨by first | rfl | (simp; done) | (simp [*]; done), by repeat (first | exact Drawn0.refl _ | apply Drawn0.step)⟩

end Go.Proofs.Ythjmdiggglkeaaa.Q

/- A Go function as a Lean function, and its contract: for every input the Go code comes to what the Lean function tells. -/

namespace Go.Proofs.Ythjmdiggglkeaaa.Q
open Go.RowKit Go.Proofs.YthjmdiggglkeaaaW.PrintWords Go.Proofs.YthjmdiggglkeaaaW.PrintLast Go.Proofs.YthjmdiggglkeaaaW.PrintMore
attribute [local go_sem] max2_int min2_int max_two min_two max_three min_three max_four min_four   -- for this text's walks alone
set_option linter.unusedVariables false
set_option linter.unusedSimpArgs false

/-- A state of type 144 at block g of W; what its slices lead to came in by w0. -/
def IsS144 (w0 W : World) (g : Nat) (f0 : List Int) (f1 : Int) (f2 : Int) : Prop := ∃ A0 c0, W.heap[g]? = some (.cells #[.slice A0 f0.length c0, .int .i64 f1, .int .i64 f2] 144 (0, 0)) ∧ w0.heap.size ≤ g ∧ Kd.C (Kd.int .u8) w0 A0 f0.length f0
theorem IsS144.grown {w0 W : World} {g : Nat} {f0 : List Int} {f1 : Int} {f2 : Int} {W1 : World} {row : Option Nat} (h : IsS144 w0 W g f0 f1 f2) (hw : W.grownBy W1 row) (hne : some g ≠ row) : IsS144 w0 W1 g f0 f1 f2 := by
 obtain ⟨A0, c0, hb, hg, hr0⟩ := h
 exact ⟨A0, c0, blk_grown hb hw hne, hg, hr0⟩
theorem IsS144.own_neN {w0 W : World} {g : Nat} {f0 : List Int} {f1 : Int} {f2 : Int} {α : Type} {d : Kd α} {e : Nat} {base : Nat} {ok : Nat → Prop} {v : Value} {xs : List α} (h : IsS144 w0 W g f0 f1 f2) (ho : Kd.N d e W base ok v xs) (ht : e ≠ 144) : some g ≠ v.ownBlock := by
 obtain ⟨A0, c0, hb, hg, hr0⟩ := h
 exact Kd.N_ne ho hb ht
theorem IsS144.fresh {w0 W : World} {g : Nat} {f0 : List Int} {f1 : Int} {f2 : Int} (h : IsS144 w0 W g f0 f1 f2) : ∀ k, W.heap.size ≤ k → k ≠ g := by
 obtain ⟨A0, c0, hb, hg, hr0⟩ := h
 exact Kd.freshB hb
theorem IsS144.kept {w0 W : World} {g : Nat} {f0 : List Int} {f1 : Int} {f2 : Int} {W1 : World} {S : Nat → Prop} (h : IsS144 w0 W g f0 f1 f2) (hk : Kept W W1 S) (hne : ¬ S g) : IsS144 w0 W1 g f0 f1 f2 := by
 obtain ⟨A0, c0, hb, hg, hr0⟩ := h
 exact ⟨A0, c0, blk_kept hb hk hne, hg, hr0⟩
theorem IsS144.below {w0 W : World} {g : Nat} {f0 : List Int} {f1 : Int} {f2 : Int} {W1 : World} (h : IsS144 w0 W g f0 f1 f2) (hw : Below W.heap.size W W1) : IsS144 w0 W1 g f0 f1 f2 := h.grown (grown_of_below hw none) (by simp)
theorem IsS144.alloc {w0 W : World} {g : Nat} {f0 : List Int} {f1 : Int} {f2 : Int} (h : IsS144 w0 W g f0 f1 f2) (o : Obj) : IsS144 w0 (W.alloc o) g f0 f1 f2 := h.below (below_alloc (Below.refl _ _) o)
theorem IsS144.drewN {w0 W : World} {g : Nat} {f0 : List Int} {f1 : Int} {f2 : Int} (h : IsS144 w0 W g f0 f1 f2) (m : Nat) : IsS144 w0 (W.drewN m) g f0 f1 f2 := h
theorem IsS144.drew {w0 W : World} {g : Nat} {f0 : List Int} {f1 : Int} {f2 : Int} (h : IsS144 w0 W g f0 f1 f2) : IsS144 w0 W.drew g f0 f1 f2 := h
theorem IsS144.at_ {w0 W : World} {g : Nat} {f0 : List Int} {f1 : Int} {f2 : Int} {w' : World} {m : Nat} (hq : W.drewN m = w') (h : IsS144 w0 W g f0 f1 f2) : IsS144 w0 w' g f0 f1 f2 := by subst hq; exact IsS144.drewN h m
theorem IsS144.apart {w0 W : World} {g : Nat} {f0 : List Int} {f1 : Int} {f2 : Int} {α : Type} {d : Kd α} {e : Nat} {base : Nat} {ok : Nat → Prop} {v : Value} {xs : List α} (h : IsS144 w0 W g f0 f1 f2) (ho : d.R e W base ok v xs) (ht : ∀ q, q ∈ e :: d.E → q ≠ 144) : d.R e W base (fun k => ok k ∧ k ≠ g) v xs := by
 obtain ⟨A0, c0, hb, hg, hr0⟩ := h
 exact Kd.R_types ho hb ht
theorem IsS144.own_ne {w0 W : World} {g : Nat} {f0 : List Int} {f1 : Int} {f2 : Int} {α : Type} {d : Kd α} {e : Nat} {base : Nat} {ok : Nat → Prop} {v : Value} {xs : List α} (h : IsS144 w0 W g f0 f1 f2) (ho : d.R e W base ok v xs) (ht : e ≠ 144) : some g ≠ v.ownBlock := by
 obtain ⟨A0, c0, hb, hg, hr0⟩ := h
 exact Kd.R_ne ho hb ht
theorem IsS144.apartQ {w0 W : World} {g : Nat} {f0 : List Int} {f1 : Int} {f2 : Int} {α : Type} {d : Kd α} {e : Nat} {base : Nat} {ok : Nat → Prop} {v : Value} {xs : List α} (h : IsS144 w0 W g f0 f1 f2) (ho : d.Q e W base ok v xs) (ht : ∀ q, q ∈ e :: d.E → q ≠ 144) : d.Q e W base (fun k => ok k ∧ k ≠ g) v xs := by
 obtain ⟨A0, c0, hb, hg, hr0⟩ := h
 exact Kd.Q_types ho hb ht
theorem IsS144.own_neQ {w0 W : World} {g : Nat} {f0 : List Int} {f1 : Int} {f2 : Int} {α : Type} {d : Kd α} {e : Nat} {base : Nat} {ok : Nat → Prop} {v : Value} {xs : List α} (h : IsS144 w0 W g f0 f1 f2) (ho : d.Q e W base ok v xs) (ht : e ≠ 144) : some g ≠ v.ownBlock := by
 obtain ⟨A0, c0, hb, hg, hr0⟩ := h
 exact Kd.Q_ne ho hb ht
theorem IsS144.apartS {w0 W : World} {g : Nat} {f0 : List Int} {f1 : Int} {f2 : Int} {α : Type} {d : Kd α} {e : Nat} {base : Nat} {ok : Nat → Prop} {v : Value} {xs : List α} (h : IsS144 w0 W g f0 f1 f2) (ho : d.S e W base ok v xs) (ht : ∀ q, q ∈ e :: d.E → q ≠ 144) : d.S e W base (fun k => ok k ∧ k ≠ g) v xs := by
 obtain ⟨A0, c0, hb, hg, hr0⟩ := h
 exact Kd.S_types ho hb ht
theorem IsS144.own_neS {w0 W : World} {g : Nat} {f0 : List Int} {f1 : Int} {f2 : Int} {α : Type} {d : Kd α} {e : Nat} {base : Nat} {ok : Nat → Prop} {v : Value} {xs : List α} (h : IsS144 w0 W g f0 f1 f2) (ho : d.S e W base ok v xs) (ht : e ≠ 144) : some g ≠ v.ownBlock := by
 obtain ⟨A0, c0, hb, hg, hr0⟩ := h
 exact Kd.S_ne ho hb ht
theorem IsS144.lt {w0 W : World} {g : Nat} {f0 : List Int} {f1 : Int} {f2 : Int} (h : IsS144 w0 W g f0 f1 f2) : g < W.heap.size := by
 obtain ⟨A0, c0, hb, hg, hr0⟩ := h
 exact blk_lt hb
theorem IsS144.ge {w0 W : World} {g : Nat} {f0 : List Int} {f1 : Int} {f2 : Int} (h : IsS144 w0 W g f0 f1 f2) : w0.heap.size ≤ g := by
 obtain ⟨A0, c0, hb, hg, hr0⟩ := h
 exact hg
theorem IsS144.ne_blk {w0 W : World} {g : Nat} {f0 : List Int} {f1 : Int} {f2 : Int} {a : Nat} {cs : Array Value} {t : TypeId} {fr : Nat × Nat} (h : IsS144 w0 W g f0 f1 f2) (hb2 : W.heap[a]? = some (.cells cs t fr)) (ht : t ≠ 144) : g ≠ a := by
 obtain ⟨A0, c0, hb, hg, hr0⟩ := h
 rintro rfl
 rw [hb] at hb2
 injection hb2 with hb2
 injection hb2 with _ ht2
 exact ht ht2.symm
theorem IsS144.far {w0 W : World} {g : Nat} {f0 : List Int} {f1 : Int} {f2 : Int} {p : Addr} (h : IsS144 w0 W g f0 f1 f2) (hne : g ≠ p.block) (u : Value) : IsS144 w0 (W.setCell p u) g f0 f1 f2 := by
 obtain ⟨A0, c0, hb, hg, hr0⟩ := h
 exact ⟨A0, c0, blk_far hb hne u, hg, hr0⟩
theorem cellS144_0 {W : World} {g : Nat} {A0 : Option Addr} {c0 : Nat} {f0 : List Int} {f1 : Int} {f2 : Int} (h : W.heap[g]? = some (.cells #[.slice A0 f0.length c0, .int .i64 f1, .int .i64 f2] 144 (0, 0))) : W.cell? ⟨g, 0, none⟩ = some (.slice A0 f0.length c0) := (blk_cell h 0).trans rfl
theorem cellS144_1 {W : World} {g : Nat} {A0 : Option Addr} {c0 : Nat} {f0 : List Int} {f1 : Int} {f2 : Int} (h : W.heap[g]? = some (.cells #[.slice A0 f0.length c0, .int .i64 f1, .int .i64 f2] 144 (0, 0))) : W.cell? ⟨g, 1, none⟩ = some (.int .i64 f1) := (blk_cell h 1).trans rfl
theorem IsS144.set_1 {w0 W : World} {g : Nat} {f0 : List Int} {f1 : Int} {f2 : Int} (h : IsS144 w0 W g f0 f1 f2) (x : Int) : IsS144 w0 (W.setCell ⟨g, 1, none⟩ (.int .i64 x)) g f0 x f2 := by
 obtain ⟨A0, c0, hb, hg, hr0⟩ := h
 exact ⟨A0, c0, by simpa using blk_set hb 1 (.int .i64 x), hg, hr0⟩
theorem cellS144_2 {W : World} {g : Nat} {A0 : Option Addr} {c0 : Nat} {f0 : List Int} {f1 : Int} {f2 : Int} (h : W.heap[g]? = some (.cells #[.slice A0 f0.length c0, .int .i64 f1, .int .i64 f2] 144 (0, 0))) : W.cell? ⟨g, 2, none⟩ = some (.int .i64 f2) := (blk_cell h 2).trans rfl
theorem IsS144.set_2 {w0 W : World} {g : Nat} {f0 : List Int} {f1 : Int} {f2 : Int} (h : IsS144 w0 W g f0 f1 f2) (x : Int) : IsS144 w0 (W.setCell ⟨g, 2, none⟩ (.int .i64 x)) g f0 f1 x := by
 obtain ⟨A0, c0, hb, hg, hr0⟩ := h
 exact ⟨A0, c0, by simpa using blk_set hb 2 (.int .i64 x), hg, hr0⟩
theorem IsS144.new (w0 W : World) (A0 : Option Addr) (c0 : Nat) (f0 : List Int) (f1 : Int) (f2 : Int) (hB : Below w0.heap.size w0 W) (hr0 : Kd.C (Kd.int .u8) w0 A0 f0.length f0) : IsS144 w0 (W.alloc (.cells #[.slice A0 f0.length c0, .int .i64 f1, .int .i64 f2] 144)) W.heap.size f0 f1 f2 := ⟨A0, c0, by simpa using heap_alloc_new W _, hB.size, hr0⟩

/-! ### spec_l01New: function 114 -/
def spec_l01New.l0 : Nat → List Int → Int → Int → Option (List Int × Int × Int)
 | 0, _, _, _ => none
 | k + 1, x0, x3, x4 => if x4 < (x0.length : Int) then (if x4 < 4000 then (if 0 ≤ x4 then (spec_l01New.l0 k x0 (Go.bits .and .i64 (wrap64 ((wrap64 ((wrap64 (x3 * 131)) + (wrap64 (rd x0 x4)))) + 7)) 1073741823) (wrap64 (x4 + 1))) else (none)) else (some (x0, 0, x3))) else (some (x0, 0, x3))
def spec_l01New.f (k : Nat) (l0 : List Int) : Option (List Int × Int × Int) := spec_l01New.l0 k l0 (wrap64 (13901 + (l0.length : Int))) 0
theorem spec_l01New.mono_l : ∀ k, (∀ y0 y1 y2, LeO (spec_l01New.l0 k y0 y1 y2) (spec_l01New.l0 (k + 1) y0 y1 y2))
 | 0 => fun _ _ _ r h => by simp [spec_l01New.l0] at h
 | k + 1 => by
  have ih0 := spec_l01New.mono_l k
  ·intro y0 y1 y2
   unfold spec_l01New.l0
   repeat' first
   | (with_reducible exact ih0 _ _ _)
   | (with_reducible exact LeO.refl _)
   | (with_reducible exact LeO.none _)
   | (with_reducible refine LeO.ite ?_ ?_)
   | (with_reducible refine LeO.bind ?_ (fun _ => ?_))
   | exact ih0 _ _ _
   | exact LeO.none _
   | refine LeO.ite ?_ ?_
   | refine LeO.bind ?_ (fun _ => ?_)
theorem spec_l01New.mono : ∀ a0 k, LeO (spec_l01New.f k a0) (spec_l01New.f (k + 1) a0) := by
 intro a0 k
 have ih0 := spec_l01New.mono_l k
 unfold spec_l01New.f
 repeat' first
   | (with_reducible exact ih0 _ _ _)
   | (with_reducible exact LeO.refl _)
   | (with_reducible exact LeO.none _)
   | (with_reducible refine LeO.ite ?_ ?_)
   | (with_reducible refine LeO.bind ?_ (fun _ => ?_))
   | exact ih0 _ _ _
   | exact LeO.none _
   | refine LeO.ite ?_ ?_
   | refine LeO.bind ?_ (fun _ => ?_)
set_option maxHeartbeats 8000000 in
set_option maxRecDepth 100000 in
theorem spec_l01New.calls (k : Nat) (A0 : Option Addr) (c0 : Nat) (l0 : List Int) (r1 : List Int) (r2 : Int) (r3 : Int) (w0 w : World) (hB : Below w0.heap.size w0 w) (hr0 : Kd.C (Kd.int .u8) w0 A0 l0.length l0) (hc0 : l0.length ≤ c0) (h : spec_l01New.f k l0 = some (r1, r2, r3)) :
  Calls Try.prog 114 #[.slice A0 l0.length c0] w fun e w' => ∃ g_ : Nat, e = .returned (.pointer (some ⟨g_, 0, none⟩)) ∧ IsS144 w0 w' g_ r1 r2 r3 ∧ Below w0.heap.size w0 w' ∧ Below w.heap.size w w' := by
 have hu144 := Try.underlying144
 have HR0 := Aside0.mk hr0
 have HC0 := Aside0.mk hc0
 clear hr0 hc0
 have HBW := Aside0.mk (Below.refl w.heap.size w)
 have HW0 := Aside0.mk hB.size
 have HB := Aside0.mk hB
 clear hB
 have H : (spec_l01New.l0 k l0 (wrap64 (13901 + (l0.length : Int))) 0) = some (r1, r2, r3) := h
 clear h
 have H' := Aside0.mk H
 clear H
 go_enter Try.func114, Try.ntmps114
 go_wp2
 go_loopg [3, 4] k (fun kq v3 v4 w' => ∃ (x3_1 : Int) (x4_1 : Int), v3 = .int .i64 x3_1 ∧ v4 = .int .i64 x4_1 ∧ Aside0 (spec_l01New.l0 kq l0 x3_1 x4_1 = some (r1, r2, r3)) ∧ Aside0 (kq ≤ k) ∧ Aside0 (Below w.heap.size w w') ∧ Aside0 (Below w0.heap.size w0 w'))
 case atStart => exact ⟨(wrap64 (13901 + (l0.length : Int))), (0), (by first | rfl | (simp; done) | (simp [*]; done)), (by first | rfl | (simp; done) | (simp [*]; done)), H', ⟨Nat.le_refl _⟩, ⟨bw_q HBW⟩, ⟨bw_q HB⟩⟩
 case round =>
  clear H'
  try clear c1
  obtain ⟨x3_1, x4_1, rfl, rfl, HA, HK1, HBW, HB⟩ := hrel
  cases gk with
  | zero => exact absurd HA.out (by simp [spec_l01New.l0])
  | succ k1 =>
   have H := HA.out
   clear HA
   simp only [spec_l01New.l0] at H
   by_cases c2 : x4_1 < (l0.length : Int)
   ·rw [if_pos c2] at H
    have c2b0 : decide (x4_1 < (l0.length : Int)) = true := decide_eq_true c2
    clear c2
    by_cases c3 : x4_1 < 4000
    ·rw [if_pos c3] at H
     have c3b0 : decide (x4_1 < 4000) = true := decide_eq_true c3
     clear c3
     by_cases c4 : 0 ≤ x4_1
     ·rw [if_pos c4] at H
      have c4b0 : decide (0 ≤ x4_1) = true := decide_eq_true c4
      clear c4
      have H' := Aside0.mk H
      clear H
      have p1219 : 0 ≤ (x4_1 : Int) := of_decide_eq_true as_q
      have q1219 : x4_1 < (l0.length : Int) := of_decide_eq_true as_q
      obtain ⟨ad1219, e1219, hx1219_0⟩ := Kd.at_int HR0.out x4_1 p1219 q1219
      cases e1219
      replace hx1219_0 := pw_cell_below HB.out hx1219_0
      replace p1219 := eq_true p1219
      replace q1219 := eq_true q1219
      go_wp2
      go_roundg k1
      case measure => have := HK1.out; omega
      case rel => exact ⟨(Go.bits .and .i64 (wrap64 ((wrap64 ((wrap64 (x3_1 * 131)) + (wrap64 (rd l0 x4_1)))) + 7)) 1073741823), (wrap64 (x4_1 + 1)), (by first | rfl | (simp; done) | (simp [*]; done)), (by first | rfl | (simp; done) | (simp [*]; done)), H', ⟨by have := HK1.out; omega⟩, ⟨bw_q HBW⟩, ⟨bw_q HB⟩⟩
     ·rw [if_neg c4] at H
      exact absurd H (by simp)
    ·rw [if_neg c3] at H
     have c3b0 : decide (x4_1 < 4000) = false := decide_eq_false c3
     clear c3
     simp only [Option.some.injEq, Prod.mk.injEq] at H
     obtain ⟨rfl, rfl, rfl⟩ := H
     go_wp2_with (first | ((with_reducible refine gate_dst (N := 31) rfl ?_); refine box_q 31 #[.slice A0 l0.length c0, .int .i64 0, .int .i64 x3_1] 144 ?_; intro gb1220 hg w5 hbox hb; replace HB := Aside0.mk (below_step (bw_q HB) hb); have BK1220 := Aside0.mk (hbox); have GW1220 := Aside0.mk ((by rw [hg]; exact (below_size (bw_q HBW)) : w.heap.size ≤ gb1220)); have GE1220 := Aside0.mk ((Nat.le_trans HW0.out (by rw [hg]; exact (below_size (bw_q HBW)) : w.heap.size ≤ gb1220) : w0.heap.size ≤ gb1220)); replace HBW := Aside0.mk (below_step HBW.out hb); clear hb hbox hg))
     go_ret
     exact ⟨_, rfl, (show IsS144 w0 _ gb1220 l0 0 x3_1 from ⟨_, _, by refine bz_ ?_; exact BK1220.out, GE1220.out, HR0.out⟩), bw_q HB, bw_q HBW⟩
   ·rw [if_neg c2] at H
    have c2b0 : decide (x4_1 < (l0.length : Int)) = false := decide_eq_false c2
    clear c2
    simp only [Option.some.injEq, Prod.mk.injEq] at H
    obtain ⟨rfl, rfl, rfl⟩ := H
    go_wp2_with (first | ((with_reducible refine gate_dst (N := 31) rfl ?_); refine box_q 31 #[.slice A0 l0.length c0, .int .i64 0, .int .i64 x3_1] 144 ?_; intro gb1221 hg w6 hbox hb; replace HB := Aside0.mk (below_step (bw_q HB) hb); have BK1221 := Aside0.mk (hbox); have GW1221 := Aside0.mk ((by rw [hg]; exact (below_size (bw_q HBW)) : w.heap.size ≤ gb1221)); have GE1221 := Aside0.mk ((Nat.le_trans HW0.out (by rw [hg]; exact (below_size (bw_q HBW)) : w.heap.size ≤ gb1221) : w0.heap.size ≤ gb1221)); replace HBW := Aside0.mk (below_step HBW.out hb); clear hb hbox hg))
    go_ret
    exact ⟨_, rfl, (show IsS144 w0 _ gb1221 l0 0 x3_1 from ⟨_, _, by refine bz_ ?_; exact BK1221.out, GE1221.out, HR0.out⟩), bw_q HB, bw_q HBW⟩

end Go.Proofs.Ythjmdiggglkeaaa.Q

/- A Go function as a Lean function, and its contract: for every input the Go code comes to what the Lean function tells. -/


namespace Go.Proofs.Ythjmdiggglkeaaa.Q
open Go.RowKit Go.Proofs.YthjmdiggglkeaaaW.PrintWords Go.Proofs.YthjmdiggglkeaaaW.PrintLast Go.Proofs.YthjmdiggglkeaaaW.PrintMore
attribute [local go_sem] max2_int min2_int max_two min_two max_three min_three max_four min_four   -- for this text's walks alone
set_option linter.unusedVariables false
set_option linter.unusedSimpArgs false

/-! ### spec_l01Byte: function 143 -/
def spec_l01Byte.f (s0_0 : List Int) (s0_1 : Int) (s0_2 : Int) : Option (Int × Int × Int) := if s0_1 < (s0_0.length : Int) then (if 0 ≤ s0_1 then (some (Go.bits .and .i64 (wrap64 ((Go.bits .and .i64 (Go.bits .xor .i64 ((wrap64 ((wrap64 (s0_2 * 6364136223846793005)) + 1442695040888963407)) / 8589934592) ((wrap64 ((wrap64 (s0_2 * 6364136223846793005)) + 1442695040888963407)) / 35184372088832)) 255) + (wrap64 (rd s0_0 s0_1)))) 255, wrap64 (s0_1 + 1), wrap64 ((wrap64 (s0_2 * 6364136223846793005)) + 1442695040888963407))) else (none)) else (some (Go.bits .and .i64 (Go.bits .xor .i64 ((wrap64 ((wrap64 (s0_2 * 6364136223846793005)) + 1442695040888963407)) / 8589934592) ((wrap64 ((wrap64 (s0_2 * 6364136223846793005)) + 1442695040888963407)) / 35184372088832)) 255, s0_1, wrap64 ((wrap64 (s0_2 * 6364136223846793005)) + 1442695040888963407)))
set_option maxHeartbeats 8000000 in
set_option maxRecDepth 100000 in
theorem spec_l01Byte.calls (g : Nat) (s0_0 : List Int) (s0_1 : Int) (s0_2 : Int) (r1 : Int) (r2 : Int) (r3 : Int) (w0 w : World) (hI : IsS144 w0 w g s0_0 s0_1 s0_2) (hB : Below w0.heap.size w0 w) (h : spec_l01Byte.f s0_0 s0_1 s0_2 = some (r1, r2, r3)) :
  Calls Try.prog 143 #[.pointer (some ⟨g, 0, none⟩)] w fun e w' => e = .returned (.int .i64 r1) ∧ IsS144 w0 w' g s0_0 r2 r3 ∧ Below w0.heap.size w0 w' ∧ KeepBut w w' g none := by
 have HI0 := Aside0.mk hI
 have HK := Aside0.mk (KeepBut.refl w g none)
 have HL := Aside0.mk hB.size
 clear hI
 have HW0 := Aside0.mk hB.size
 have HB := Aside0.mk hB
 clear hB
 have H : (if s0_1 < (s0_0.length : Int) then (if 0 ≤ s0_1 then (some (Go.bits .and .i64 (wrap64 ((Go.bits .and .i64 (Go.bits .xor .i64 ((wrap64 ((wrap64 (s0_2 * 6364136223846793005)) + 1442695040888963407)) / 8589934592) ((wrap64 ((wrap64 (s0_2 * 6364136223846793005)) + 1442695040888963407)) / 35184372088832)) 255) + (wrap64 (rd s0_0 s0_1)))) 255, wrap64 (s0_1 + 1), wrap64 ((wrap64 (s0_2 * 6364136223846793005)) + 1442695040888963407))) else (none)) else (some (Go.bits .and .i64 (Go.bits .xor .i64 ((wrap64 ((wrap64 (s0_2 * 6364136223846793005)) + 1442695040888963407)) / 8589934592) ((wrap64 ((wrap64 (s0_2 * 6364136223846793005)) + 1442695040888963407)) / 35184372088832)) 255, s0_1, wrap64 ((wrap64 (s0_2 * 6364136223846793005)) + 1442695040888963407)))) = some (r1, r2, r3) := h
 clear h
 by_cases c2 : s0_1 < (s0_0.length : Int)
 ·rw [if_pos c2] at H
  have c2b0 : decide (s0_1 < (s0_0.length : Int)) = true := decide_eq_true c2
  clear c2
  by_cases c3 : 0 ≤ s0_1
  ·rw [if_pos c3] at H
   have c3b0 : decide (0 ≤ s0_1) = true := decide_eq_true c3
   clear c3
   simp only [Option.some.injEq, Prod.mk.injEq] at H
   obtain ⟨rfl, rfl, rfl⟩ := H
   obtain ⟨ASz4_0, cSz4_0, HGz4, hgz4, HSz4_0⟩ := HI0.out
   have hcz4_0 := cellS144_0 HGz4
   have hcz4_1 := cellS144_1 HGz4
   have hcz4_2 := cellS144_2 HGz4
   have hfz4_1 := blk_frozen HGz4 1
   have hfz4_2 := blk_frozen HGz4 2
   clear HGz4 hgz4
   have p1222 : 0 ≤ (s0_1 : Int) := of_decide_eq_true as_q
   have q1222 : s0_1 < (s0_0.length : Int) := of_decide_eq_true as_q
   obtain ⟨ad1222, e1222, hx1222_0⟩ := Kd.at_int HSz4_0 s0_1 p1222 q1222
   cases e1222
   have hn1222_0 : ad1222.block ≠ g := Nat.ne_of_lt (Nat.lt_of_lt_of_le (by have := World.block_lt_of_cell? _ _ hx1222_0; first | rwa [add_block] at this | exact this) (IsS144.ge HI0.out))
   replace hx1222_0 := pw_cell_below HB.out hx1222_0
   replace hx1222_0 := (cell_far (p := ⟨g, 2, none⟩) (by first | (rw [add_block]; exact hn1222_0) | (show (Addr.add _ _).block ≠ _; rw [add_block]; exact hn1222_0) | exact hn1222_0) (.int .i64 (wrap64 ((wrap64 (s0_2 * 6364136223846793005)) + 1442695040888963407)))).trans hx1222_0
   (try have hy1222_0 := fun (n_ : Nat) => (show (((w.drewN n_).setCell ⟨g, 2, none⟩ (.int .i64 (wrap64 ((wrap64 (s0_2 * 6364136223846793005)) + 1442695040888963407))))).cell? _ = some _ from hx1222_0))
   clear hn1222_0
   replace p1222 := eq_true p1222
   replace q1222 := eq_true q1222
   go_enter Try.func143, Try.ntmps143
   go_wp2
   repeat (go_quiet (fail); try go_wp2)
   go_ret
   exact ⟨er_q, by repeat (first | (with_reducible first | exact HI0.out | apply IsS144.alloc | apply IsS144.drewN | apply IsS144.drew | apply IsS144.set_1 | apply IsS144.set_2) | exact HI0.out), by repeat (first | (with_reducible first | exact HB.out | apply below_alloc | apply pw_below_drewN | apply below_drew1 | refine below_set ?_ (IsS144.ge HI0.out)) | exact HB.out), by repeat (first | (with_reducible first | exact HK.out | apply KeepBut.set_ | apply keep_drewN | apply keep_drew | apply keep_alloc) | exact HK.out)⟩
  ·rw [if_neg c3] at H
   exact absurd H (by simp)
 ·rw [if_neg c2] at H
  have c2b0 : decide (s0_1 < (s0_0.length : Int)) = false := decide_eq_false c2
  clear c2
  simp only [Option.some.injEq, Prod.mk.injEq] at H
  obtain ⟨rfl, rfl, rfl⟩ := H
  obtain ⟨ASz5_0, cSz5_0, HGz5, hgz5, HSz5_0⟩ := HI0.out
  have hcz5_0 := cellS144_0 HGz5
  have hcz5_1 := cellS144_1 HGz5
  have hcz5_2 := cellS144_2 HGz5
  have hfz5_1 := blk_frozen HGz5 1
  have hfz5_2 := blk_frozen HGz5 2
  clear HGz5 hgz5
  go_enter Try.func143, Try.ntmps143
  go_wp2
  repeat (go_quiet (fail); try go_wp2)
  go_ret
  exact ⟨er_q, by repeat (first | (with_reducible first | exact HI0.out | apply IsS144.alloc | apply IsS144.drewN | apply IsS144.drew | apply IsS144.set_1 | apply IsS144.set_2) | exact HI0.out), by repeat (first | (with_reducible first | exact HB.out | apply below_alloc | apply pw_below_drewN | apply below_drew1 | refine below_set ?_ (IsS144.ge HI0.out)) | exact HB.out), by repeat (first | (with_reducible first | exact HK.out | apply KeepBut.set_ | apply keep_drewN | apply keep_drew | apply keep_alloc) | exact HK.out)⟩

end Go.Proofs.Ythjmdiggglkeaaa.Q

/- A Go function as a Lean function, and its contract: for every input the Go code comes to what the Lean function tells. -/



namespace Go.Proofs.Ythjmdiggglkeaaa.Q
open Go.RowKit Go.Proofs.YthjmdiggglkeaaaW.PrintWords Go.Proofs.YthjmdiggglkeaaaW.PrintLast Go.Proofs.YthjmdiggglkeaaaW.PrintMore
attribute [local go_sem] max2_int min2_int max_two min_two max_three min_three max_four min_four   -- for this text's walks alone
set_option linter.unusedVariables false
set_option linter.unusedSimpArgs false

/-! ### spec_l01Below: function 115 -/
def spec_l01Below.f (s0_0 : List Int) (s0_1 : Int) (s0_2 : Int) (a1 : Int) : Option (Int × Int × Int) := if a1 ≤ 0 then (some (0, s0_1, s0_2)) else (if a1 ≤ 256 then ((spec_l01Byte.f s0_0 s0_1 s0_2).bind fun bt1223 => (if a1 = 0 then (none) else (some (Int.tmod bt1223.1 a1, bt1223.2.1, bt1223.2.2)))) else ((spec_l01Byte.f s0_0 s0_1 s0_2).bind fun bt1226 => ((spec_l01Byte.f s0_0 bt1226.2.1 bt1226.2.2).bind fun bt1229 => ((spec_l01Byte.f s0_0 bt1229.2.1 bt1229.2.2).bind fun bt1232 => ((spec_l01Byte.f s0_0 bt1232.2.1 bt1232.2.2).bind fun bt1235 => (if a1 = 0 then (none) else (some (Int.tmod (wrap64 ((wrap64 ((wrap64 ((wrap64 (bt1226.1 * 16777216)) + (wrap64 (bt1229.1 * 65536)))) + (wrap64 (bt1232.1 * 256)))) + bt1235.1)) a1, bt1235.2.1, bt1235.2.2))))))))
set_option maxHeartbeats 8000000 in
set_option maxRecDepth 100000 in
theorem spec_l01Below.calls (g : Nat) (s0_0 : List Int) (s0_1 : Int) (s0_2 : Int) (a1 : Int) (r1 : Int) (r2 : Int) (r3 : Int) (w0 w : World) (hI : IsS144 w0 w g s0_0 s0_1 s0_2) (hB : Below w0.heap.size w0 w) (h : spec_l01Below.f s0_0 s0_1 s0_2 a1 = some (r1, r2, r3)) :
  Calls Try.prog 115 #[.pointer (some ⟨g, 0, none⟩), .int .i64 a1] w fun e w' => e = .returned (.int .i64 r1) ∧ IsS144 w0 w' g s0_0 r2 r3 ∧ Below w0.heap.size w0 w' ∧ KeepBut w w' g none := by
 have HI0 := Aside0.mk hI
 have HK := Aside0.mk (KeepBut.refl w g none)
 have HL := Aside0.mk hB.size
 clear hI
 have HW0 := Aside0.mk hB.size
 have HB := Aside0.mk hB
 clear hB
 have H : (if a1 ≤ 0 then (some (0, s0_1, s0_2)) else (if a1 ≤ 256 then ((spec_l01Byte.f s0_0 s0_1 s0_2).bind fun bt1223 => (if a1 = 0 then (none) else (some (Int.tmod bt1223.1 a1, bt1223.2.1, bt1223.2.2)))) else ((spec_l01Byte.f s0_0 s0_1 s0_2).bind fun bt1226 => ((spec_l01Byte.f s0_0 bt1226.2.1 bt1226.2.2).bind fun bt1229 => ((spec_l01Byte.f s0_0 bt1229.2.1 bt1229.2.2).bind fun bt1232 => ((spec_l01Byte.f s0_0 bt1232.2.1 bt1232.2.2).bind fun bt1235 => (if a1 = 0 then (none) else (some (Int.tmod (wrap64 ((wrap64 ((wrap64 ((wrap64 (bt1226.1 * 16777216)) + (wrap64 (bt1229.1 * 65536)))) + (wrap64 (bt1232.1 * 256)))) + bt1235.1)) a1, bt1235.2.1, bt1235.2.2))))))))) = some (r1, r2, r3) := h
 clear h
 by_cases c3 : a1 ≤ 0
 ·rw [if_pos c3] at H
  have c3b0 : decide (a1 ≤ 0) = true := decide_eq_true c3
  clear c3
  simp only [Option.some.injEq, Prod.mk.injEq] at H
  obtain ⟨rfl, rfl, rfl⟩ := H
  go_enter Try.func115, Try.ntmps115
  go_wp2
  go_ret
  exact ⟨er_q, by repeat (first | (with_reducible first | exact HI0.out | apply IsS144.alloc | apply IsS144.drewN | apply IsS144.drew | apply IsS144.set_1 | apply IsS144.set_2) | exact HI0.out), by repeat (first | (with_reducible first | exact HB.out | apply below_alloc | apply pw_below_drewN | apply below_drew1 | refine below_set ?_ (IsS144.ge HI0.out)) | exact HB.out), by repeat (first | (with_reducible first | exact HK.out | apply KeepBut.set_ | apply keep_drewN | apply keep_drew | apply keep_alloc) | exact HK.out)⟩
 ·rw [if_neg c3] at H
  have c3b0 : decide (a1 ≤ 0) = false := decide_eq_false c3
  clear c3
  by_cases c4 : a1 ≤ 256
  ·rw [if_pos c4] at H
   have c4b0 : decide (a1 ≤ 256) = true := decide_eq_true c4
   clear c4
   replace H := Option.bind_eq_some_iff.mp H
   obtain ⟨⟨t1223, t1224, t1225⟩, A50, H⟩ := H
   replace H : (if a1 = 0 then (none) else (some (Int.tmod t1223 a1, t1224, t1225))) = some (r1, r2, r3) := H
   have A5 := Aside0.mk A50
   clear A50
   by_cases c6 : a1 = 0
   ·rw [if_pos c6] at H
    exact absurd H (by simp)
   ·rw [if_neg c6] at H
    have c6b0 : (a1 == 0) = false := beq_eq_false_iff_ne.mpr c6
    have c6b1 : (a1 != 0) = true := bne_iff_ne.mpr c6
    simp only [Option.some.injEq, Prod.mk.injEq] at H
    obtain ⟨rfl, rfl, rfl⟩ := H
    go_enter Try.func115, Try.ntmps115
    go_wp2_with (first | ((with_reducible refine gate_callee (f := 143) rfl ?_); refine goesL_ (some 14) rfl rfl Try.func143 (by kernel_rfl) rfl #[.pointer (some ⟨g, 0, none⟩)] rfl mp_q ?_; (with_reducible refine (spec_l01Byte.calls g s0_0 s0_1 s0_2 t1223 t1224 t1225 w0 _ ?side1 ?side2 A5.out).mono ?_); (case side1 => repeat (first | (with_reducible first | exact HI0.out | apply IsS144.alloc | apply IsS144.drewN | apply IsS144.drew | apply IsS144.set_1 | apply IsS144.set_2) | exact HI0.out)); (case side2 => repeat (first | (with_reducible first | exact HB.out | apply below_alloc | apply pw_below_drewN | apply below_drew1 | refine below_set ?_ (IsS144.ge HI0.out)) | exact HB.out)); rintro e w7 ⟨rfl, hi, hb, hk⟩; refine ⟨_, rfl, ?_⟩; replace HK := Aside0.mk (KeepBut.trans (by repeat (first | (with_reducible first | exact HK.out | apply KeepBut.set_ | apply keep_drewN | apply keep_drew | apply keep_alloc) | exact HK.out)) hk (.inl rfl)); replace HB := Aside0.mk (hb); replace HI0 := Aside0.mk (hi); (try clear hb); (try clear hb2); (try clear hk); (try clear hi)))
    go_ret
    exact ⟨er_q, by repeat (first | (with_reducible first | exact HI0.out | apply IsS144.alloc | apply IsS144.drewN | apply IsS144.drew | apply IsS144.set_1 | apply IsS144.set_2) | exact HI0.out), by repeat (first | (with_reducible first | exact HB.out | apply below_alloc | apply pw_below_drewN | apply below_drew1 | refine below_set ?_ (IsS144.ge HI0.out)) | exact HB.out), by repeat (first | (with_reducible first | exact HK.out | apply KeepBut.set_ | apply keep_drewN | apply keep_drew | apply keep_alloc) | exact HK.out)⟩
  ·rw [if_neg c4] at H
   have c4b0 : decide (a1 ≤ 256) = false := decide_eq_false c4
   clear c4
   replace H := Option.bind_eq_some_iff.mp H
   obtain ⟨⟨t1226, t1227, t1228⟩, A80, H⟩ := H
   replace H : ((spec_l01Byte.f s0_0 t1227 t1228).bind fun bt1229 => ((spec_l01Byte.f s0_0 bt1229.2.1 bt1229.2.2).bind fun bt1232 => ((spec_l01Byte.f s0_0 bt1232.2.1 bt1232.2.2).bind fun bt1235 => (if a1 = 0 then (none) else (some (Int.tmod (wrap64 ((wrap64 ((wrap64 ((wrap64 (t1226 * 16777216)) + (wrap64 (bt1229.1 * 65536)))) + (wrap64 (bt1232.1 * 256)))) + bt1235.1)) a1, bt1235.2.1, bt1235.2.2)))))) = some (r1, r2, r3) := H
   have A8 := Aside0.mk A80
   clear A80
   replace H := Option.bind_eq_some_iff.mp H
   obtain ⟨⟨t1229, t1230, t1231⟩, A90, H⟩ := H
   replace H : ((spec_l01Byte.f s0_0 t1230 t1231).bind fun bt1232 => ((spec_l01Byte.f s0_0 bt1232.2.1 bt1232.2.2).bind fun bt1235 => (if a1 = 0 then (none) else (some (Int.tmod (wrap64 ((wrap64 ((wrap64 ((wrap64 (t1226 * 16777216)) + (wrap64 (t1229 * 65536)))) + (wrap64 (bt1232.1 * 256)))) + bt1235.1)) a1, bt1235.2.1, bt1235.2.2))))) = some (r1, r2, r3) := H
   have A9 := Aside0.mk A90
   clear A90
   replace H := Option.bind_eq_some_iff.mp H
   obtain ⟨⟨t1232, t1233, t1234⟩, A100, H⟩ := H
   replace H : ((spec_l01Byte.f s0_0 t1233 t1234).bind fun bt1235 => (if a1 = 0 then (none) else (some (Int.tmod (wrap64 ((wrap64 ((wrap64 ((wrap64 (t1226 * 16777216)) + (wrap64 (t1229 * 65536)))) + (wrap64 (t1232 * 256)))) + bt1235.1)) a1, bt1235.2.1, bt1235.2.2)))) = some (r1, r2, r3) := H
   have A10 := Aside0.mk A100
   clear A100
   replace H := Option.bind_eq_some_iff.mp H
   obtain ⟨⟨t1235, t1236, t1237⟩, A110, H⟩ := H
   replace H : (if a1 = 0 then (none) else (some (Int.tmod (wrap64 ((wrap64 ((wrap64 ((wrap64 (t1226 * 16777216)) + (wrap64 (t1229 * 65536)))) + (wrap64 (t1232 * 256)))) + t1235)) a1, t1236, t1237))) = some (r1, r2, r3) := H
   have A11 := Aside0.mk A110
   clear A110
   by_cases c12 : a1 = 0
   ·rw [if_pos c12] at H
    exact absurd H (by simp)
   ·rw [if_neg c12] at H
    have c12b0 : (a1 == 0) = false := beq_eq_false_iff_ne.mpr c12
    have c12b1 : (a1 != 0) = true := bne_iff_ne.mpr c12
    simp only [Option.some.injEq, Prod.mk.injEq] at H
    obtain ⟨rfl, rfl, rfl⟩ := H
    go_enter Try.func115, Try.ntmps115
    go_wp2_with (first | ((with_reducible refine gate_callee (f := 143) rfl ?_); refine goesL_ (some 18) rfl rfl Try.func143 (by kernel_rfl) rfl #[.pointer (some ⟨g, 0, none⟩)] rfl mp_q ?_; (with_reducible refine (spec_l01Byte.calls g s0_0 s0_1 s0_2 t1226 t1227 t1228 w0 _ ?side1 ?side2 A8.out).mono ?_); (case side1 => repeat (first | (with_reducible first | exact HI0.out | apply IsS144.alloc | apply IsS144.drewN | apply IsS144.drew | apply IsS144.set_1 | apply IsS144.set_2) | exact HI0.out)); (case side2 => repeat (first | (with_reducible first | exact HB.out | apply below_alloc | apply pw_below_drewN | apply below_drew1 | refine below_set ?_ (IsS144.ge HI0.out)) | exact HB.out)); rintro e w13 ⟨rfl, hi, hb, hk⟩; refine ⟨_, rfl, ?_⟩; replace HK := Aside0.mk (KeepBut.trans (by repeat (first | (with_reducible first | exact HK.out | apply KeepBut.set_ | apply keep_drewN | apply keep_drew | apply keep_alloc) | exact HK.out)) hk (.inl rfl)); replace HB := Aside0.mk (hb); replace HI0 := Aside0.mk (hi); (try clear hb); (try clear hb2); (try clear hk); (try clear hi)) | ((with_reducible refine gate_callee (f := 143) rfl ?_); refine goesL_ (some 20) rfl rfl Try.func143 (by kernel_rfl) rfl #[.pointer (some ⟨g, 0, none⟩)] rfl mp_q ?_; (with_reducible refine (spec_l01Byte.calls g s0_0 t1227 t1228 t1229 t1230 t1231 w0 _ ?side1 ?side2 A9.out).mono ?_); (case side1 => repeat (first | (with_reducible first | exact HI0.out | apply IsS144.alloc | apply IsS144.drewN | apply IsS144.drew | apply IsS144.set_1 | apply IsS144.set_2) | exact HI0.out)); (case side2 => repeat (first | (with_reducible first | exact HB.out | apply below_alloc | apply pw_below_drewN | apply below_drew1 | refine below_set ?_ (IsS144.ge HI0.out)) | exact HB.out)); rintro e w14 ⟨rfl, hi, hb, hk⟩; refine ⟨_, rfl, ?_⟩; replace HK := Aside0.mk (KeepBut.trans (by repeat (first | (with_reducible first | exact HK.out | apply KeepBut.set_ | apply keep_drewN | apply keep_drew | apply keep_alloc) | exact HK.out)) hk (.inl rfl)); replace HB := Aside0.mk (hb); replace HI0 := Aside0.mk (hi); (try clear hb); (try clear hb2); (try clear hk); (try clear hi)) | ((with_reducible refine gate_callee (f := 143) rfl ?_); refine goesL_ (some 22) rfl rfl Try.func143 (by kernel_rfl) rfl #[.pointer (some ⟨g, 0, none⟩)] rfl mp_q ?_; (with_reducible refine (spec_l01Byte.calls g s0_0 t1230 t1231 t1232 t1233 t1234 w0 _ ?side1 ?side2 A10.out).mono ?_); (case side1 => repeat (first | (with_reducible first | exact HI0.out | apply IsS144.alloc | apply IsS144.drewN | apply IsS144.drew | apply IsS144.set_1 | apply IsS144.set_2) | exact HI0.out)); (case side2 => repeat (first | (with_reducible first | exact HB.out | apply below_alloc | apply pw_below_drewN | apply below_drew1 | refine below_set ?_ (IsS144.ge HI0.out)) | exact HB.out)); rintro e w15 ⟨rfl, hi, hb, hk⟩; refine ⟨_, rfl, ?_⟩; replace HK := Aside0.mk (KeepBut.trans (by repeat (first | (with_reducible first | exact HK.out | apply KeepBut.set_ | apply keep_drewN | apply keep_drew | apply keep_alloc) | exact HK.out)) hk (.inl rfl)); replace HB := Aside0.mk (hb); replace HI0 := Aside0.mk (hi); (try clear hb); (try clear hb2); (try clear hk); (try clear hi)) | ((with_reducible refine gate_callee (f := 143) rfl ?_); refine goesL_ (some 24) rfl rfl Try.func143 (by kernel_rfl) rfl #[.pointer (some ⟨g, 0, none⟩)] rfl mp_q ?_; (with_reducible refine (spec_l01Byte.calls g s0_0 t1233 t1234 t1235 t1236 t1237 w0 _ ?side1 ?side2 A11.out).mono ?_); (case side1 => repeat (first | (with_reducible first | exact HI0.out | apply IsS144.alloc | apply IsS144.drewN | apply IsS144.drew | apply IsS144.set_1 | apply IsS144.set_2) | exact HI0.out)); (case side2 => repeat (first | (with_reducible first | exact HB.out | apply below_alloc | apply pw_below_drewN | apply below_drew1 | refine below_set ?_ (IsS144.ge HI0.out)) | exact HB.out)); rintro e w16 ⟨rfl, hi, hb, hk⟩; refine ⟨_, rfl, ?_⟩; replace HK := Aside0.mk (KeepBut.trans (by repeat (first | (with_reducible first | exact HK.out | apply KeepBut.set_ | apply keep_drewN | apply keep_drew | apply keep_alloc) | exact HK.out)) hk (.inl rfl)); replace HB := Aside0.mk (hb); replace HI0 := Aside0.mk (hi); (try clear hb); (try clear hb2); (try clear hk); (try clear hi)))
    go_ret
    exact ⟨er_q, by repeat (first | (with_reducible first | exact HI0.out | apply IsS144.alloc | apply IsS144.drewN | apply IsS144.drew | apply IsS144.set_1 | apply IsS144.set_2) | exact HI0.out), by repeat (first | (with_reducible first | exact HB.out | apply below_alloc | apply pw_below_drewN | apply below_drew1 | refine below_set ?_ (IsS144.ge HI0.out)) | exact HB.out), by repeat (first | (with_reducible first | exact HK.out | apply KeepBut.set_ | apply keep_drewN | apply keep_drew | apply keep_alloc) | exact HK.out)⟩

end Go.Proofs.Ythjmdiggglkeaaa.Q

/- A Go function as a Lean function, and its contract: for every input the Go code comes to what the Lean function tells. -/



namespace Go.Proofs.Ythjmdiggglkeaaa.Q
open Go.RowKit Go.Proofs.YthjmdiggglkeaaaW.PrintWords Go.Proofs.YthjmdiggglkeaaaW.PrintLast Go.Proofs.YthjmdiggglkeaaaW.PrintMore
attribute [local go_sem] max2_int min2_int max_two min_two max_three min_three max_four min_four   -- for this text's walks alone
set_option linter.unusedVariables false
set_option linter.unusedSimpArgs false

/-! ### spec_l01Once: function 121 -/
def spec_l01Once.f (s0_0 : List Int) (s0_1 : Int) (s0_2 : Int) (a1 : Int) : Option (Bool × Int × Int) := (spec_l01Below.f s0_0 s0_1 s0_2 a1).bind fun bt1238 => (some ((bt1238.1 == 0), bt1238.2.1, bt1238.2.2))
set_option maxHeartbeats 8000000 in
set_option maxRecDepth 100000 in
theorem spec_l01Once.calls (g : Nat) (s0_0 : List Int) (s0_1 : Int) (s0_2 : Int) (a1 : Int) (r1 : Bool) (r2 : Int) (r3 : Int) (w0 w : World) (hI : IsS144 w0 w g s0_0 s0_1 s0_2) (hB : Below w0.heap.size w0 w) (h : spec_l01Once.f s0_0 s0_1 s0_2 a1 = some (r1, r2, r3)) :
  Calls Try.prog 121 #[.pointer (some ⟨g, 0, none⟩), .int .i64 a1] w fun e w' => e = .returned (.bool r1) ∧ IsS144 w0 w' g s0_0 r2 r3 ∧ Below w0.heap.size w0 w' ∧ KeepBut w w' g none := by
 have HI0 := Aside0.mk hI
 have HK := Aside0.mk (KeepBut.refl w g none)
 have HL := Aside0.mk hB.size
 clear hI
 have HW0 := Aside0.mk hB.size
 have HB := Aside0.mk hB
 clear hB
 have H : ((spec_l01Below.f s0_0 s0_1 s0_2 a1).bind fun bt1238 => (some ((bt1238.1 == 0), bt1238.2.1, bt1238.2.2))) = some (r1, r2, r3) := h
 clear h
 replace H := Option.bind_eq_some_iff.mp H
 obtain ⟨⟨t1238, t1239, t1240⟩, A30, H⟩ := H
 replace H : (some ((t1238 == 0), t1239, t1240)) = some (r1, r2, r3) := H
 have A3 := Aside0.mk A30
 clear A30
 simp only [Option.some.injEq, Prod.mk.injEq] at H
 obtain ⟨rfl, rfl, rfl⟩ := H
 go_enter Try.func121, Try.ntmps121
 go_wp2_with (first | ((with_reducible refine gate_callee (f := 115) rfl ?_); refine goesL_ (some 7) rfl rfl Try.func115 (by kernel_rfl) rfl #[.pointer (some ⟨g, 0, none⟩), .int .i64 a1] rfl mp_q ?_; (with_reducible refine (spec_l01Below.calls g s0_0 s0_1 s0_2 a1 t1238 t1239 t1240 w0 _ ?side1 ?side2 A3.out).mono ?_); (case side1 => repeat (first | (with_reducible first | exact HI0.out | apply IsS144.alloc | apply IsS144.drewN | apply IsS144.drew | apply IsS144.set_1 | apply IsS144.set_2) | exact HI0.out)); (case side2 => repeat (first | (with_reducible first | exact HB.out | apply below_alloc | apply pw_below_drewN | apply below_drew1 | refine below_set ?_ (IsS144.ge HI0.out)) | exact HB.out)); rintro e w4 ⟨rfl, hi, hb, hk⟩; refine ⟨_, rfl, ?_⟩; replace HK := Aside0.mk (KeepBut.trans (by repeat (first | (with_reducible first | exact HK.out | apply KeepBut.set_ | apply keep_drewN | apply keep_drew | apply keep_alloc) | exact HK.out)) hk (.inl rfl)); replace HB := Aside0.mk (hb); replace HI0 := Aside0.mk (hi); (try clear hb); (try clear hb2); (try clear hk); (try clear hi)))
 go_ret
 exact ⟨er_q, by repeat (first | (with_reducible first | exact HI0.out | apply IsS144.alloc | apply IsS144.drewN | apply IsS144.drew | apply IsS144.set_1 | apply IsS144.set_2) | exact HI0.out), by repeat (first | (with_reducible first | exact HB.out | apply below_alloc | apply pw_below_drewN | apply below_drew1 | refine below_set ?_ (IsS144.ge HI0.out)) | exact HB.out), by repeat (first | (with_reducible first | exact HK.out | apply KeepBut.set_ | apply keep_drewN | apply keep_drew | apply keep_alloc) | exact HK.out)⟩

end Go.Proofs.Ythjmdiggglkeaaa.Q
